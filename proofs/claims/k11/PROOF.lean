import PyProof.Rows.All
import Wide.All
import OpenK.AllK
import Wide.FinOn
import HandS.ForMost
import HandS.ForExc
import HandS.Wide
import HandS.WideMore
import HandS.Walk
import HandS.TryMany
import HandS.TupAny
import HandS.TupMul
import HandS.Flow
import HandS.RevRange
import HandS.Lambda
import HandS.Style
import HandS.Conv
import HandS.Defaults
import HandS.HeadHook4
import KE.GoesEnum
import HandS.AnyAll
import HandS.Rev
import KE.DataMinMax
import KE.KExcSuper
import HandS.ExcInit
import HandS.HeadHook2
import HandS.GenOver
import KE.GoesZip
import KE.GoesMore
import HandS.Head0
import HandS.Head1
import HandS.Head2
import HandS.HeadEnd
import HandS.HeadHook1
import HandS.HeadHook3
import HandS.HeadWalk
import PySem.Challenge.RW_wagehall_k11_stock_and_wear
set_option Elab.async false
set_option linter.all false
set_option maxRecDepth 100000
set_option maxHeartbeats 2000000
/-! DL: deep data, a store, denotations (a layer over HandS). -/
namespace DL
open PySem PySem.Spec PyProof.Rows L2

/-! ### data -/
inductive D where
  | non | bl (b : Bool) | int (i : Int) | str (x : Str) | tup (xs : List D) | fl (xs : List D) | obj (n : Nat)
deriving Inhabited
inductive DO where
  | lst (xs : List D)
  | ins (c : String) (fs : List (Str × D))
abbrev Store := List DO
abbrev DEnv := List (Option D)
structure Exc where
  c : String
inductive Out (α : Type) where
  | ok (a : α) (S : Store) | exn (e : Exc) (S : Store) | bad
def Out.bind {α β : Type} (o : Out α) (k : α → Store → Out β) : Out β := match o with
  | .ok a S => k a S
  | .exn e S => .exn e S
  | .bad => .bad
@[simp] theorem Out.bind_ok {α β : Type} (a : α) (S : Store) (k : α → Store → Out β) : (Out.ok a S).bind k = k a S := rfl
@[simp] theorem Out.bind_exn {α β : Type} (e : Exc) (S : Store) (k : α → Store → Out β) : (Out.exn e S : Out α).bind k = .exn e S := rfl
@[simp] theorem Out.bind_bad {α β : Type} (k : α → Store → Out β) : (Out.bad : Out α).bind k = .bad := rfl
def optO {α : Type} : Option (α × Store) → Out α
  | some (a, S) => .ok a S
  | none => .bad
@[simp] theorem optO_some {α : Type} (a : α) (S : Store) : optO (some (a, S)) = .ok a S := rfl
@[simp] theorem optO_none {α : Type} : optO (none : Option (α × Store)) = .bad := rfl
/-- classes by names; tables of code objects -/
structure Gx where
  cA : String → Addr
  T : List (Addr × Str)

/-- a list that nothing changes -/
def SqF (K : PySem.W.Frag) (H : Hp) (a : Addr) (xs : List V) : Prop :=
  (∃ o, H a = some (.frz o (.lst xs))) ∨ ∃ (o : Obj) (its : Array Value) (n : Nat), K.lookup a = some o ∧ o.cls = .type "list" ∧ o.dict = none ∧ o.data = .seq its n ∧ its.size ≤ sizeLine ∧ Vals xs its.toList
theorem SqF.l {K : PySem.W.Frag} {H : Hp} {a : Addr} {xs : List V} (h : SqF K H a xs) : SqL K H a xs := by
  rcases h with ⟨o, h⟩ | h
  · exact .inl (.inr ⟨o, h⟩)
  · exact .inr h
mutual
def SV (K : PySem.W.Frag) (m : List Addr) (H : Hp) : D → V → Prop
  | .non, v => v = .non
  | .bl b, v => v = .bl b
  | .int i, v => v = .int i
  | .str x, v => v = .str x
  | .tup xs, v => ∃ p vs, v = .ref p ∧ SqT K H p vs ∧ SVs K m H xs vs
  | .fl xs, v => ∃ p vs, v = .ref p ∧ SqF K H p vs ∧ SVs K m H xs vs
  | .obj n, v => ∃ a, v = .ref a ∧ m[n]? = some a
def SVs (K : PySem.W.Frag) (m : List Addr) (H : Hp) : List D → List V → Prop
  | [], vs => vs = []
  | d :: ds, vs => ∃ v r, vs = v :: r ∧ SV K m H d v ∧ SVs K m H ds r
end
def SF (K : PySem.W.Frag) (m : List Addr) (H : Hp) : List (Str × D) → List (Str × V) → Prop
  | [], vs => vs = []
  | (f, d) :: ds, vs => ∃ v r, vs = (f, v) :: r ∧ SV K m H d v ∧ SF K m H ds r
/-- what stands at a for the store's object -/
def SO (K : PySem.W.Frag) (G : Gx) (m : List Addr) (H : Hp) : DO → Addr → Prop
  | .lst xs, a => ∃ vs, H a = some (.lst vs) ∧ SVs K m H xs vs
  | .ins c fs, a => ∃ dx vfs, H a = some (.ins (G.cA c) dx vfs) ∧ SF K m H fs vfs
structure Sim (K : PySem.W.Frag) (G : Gx) (m : List Addr) (S : Store) (H : Hp) : Prop where
  len : m.length = S.length
  nd : m.Nodup
  at_ : ∀ (n : Nat) (o : DO) (a : Addr), S[n]? = some o → m[n]? = some a → SO K G m H o a
  tabs : LamX.Tabs G.T H
structure Step (m : List Addr) (H : Hp) (m' : List Addr) (H' : Hp) : Prop where
  ext : ∃ l, m' = m ++ l ∧ ∀ a ∈ l, ∀ o, H a = some o → ∃ ps, o = .tbl ps
  nd : m'.Nodup
  frame : ∀ b o, H b = some o → (∀ ps, o ≠ .tbl ps) → b ∉ m → H' b = some o
/-- mutable things of the store -/
def MutO : HO → Prop
  | .lst _ => True
  | .ins _ _ _ => True
  | .dK _ => True
  | .dT _ => True
  | _ => False
section
variable {K : PySem.W.Frag} {G : Gx} {m m1 m2 : List Addr} {S S1 : Store} {H H1 H2 : Hp}
theorem Sim.mem (s : Sim K G m S H) {a : Addr} (h : a ∈ m) : ∃ o, H a = some o ∧ MutO o := by
  obtain ⟨n, hn, e⟩ := List.getElem_of_mem h
  have hn' : n < S.length := by rw [← s.len]; exact hn
  have q := s.at_ n S[n] a (by simp [hn']) (by simp [hn, e])
  cases e2 : S[n] with
  | lst xs => rw [e2] at q; obtain ⟨vs, q, _⟩ := q; exact ⟨_, q, trivial⟩
  | ins c fs => rw [e2] at q; obtain ⟨dx, vs, q, _⟩ := q; exact ⟨_, q, trivial⟩
theorem Sim.notMem (s : Sim K G m S H) {a : Addr} {o : HO} (h : H a = some o) (hm : ¬ MutO o) : a ∉ m := fun q => by
  obtain ⟨o', e, mu⟩ := s.mem q
  rw [h] at e; cases e; exact hm mu
theorem Sim.fresh (s : Sim K G m S H) {a : Addr} (h : H a = none) : a ∉ m := fun q => by
  obtain ⟨o', e, mu⟩ := s.mem q
  rw [h] at e; cases e
theorem Step.refl (nd : m.Nodup) : Step m H m H := ⟨⟨[], by simp⟩, nd, fun _ _ h _ _ => h⟩
theorem Sim.refl (s : Sim K G m S H) : Step m H m H := Step.refl s.nd
theorem Step.trans (a : Step m H m1 H1) (b : Step m1 H1 m2 H2) : Step m H m2 H2 := by
  obtain ⟨l1, e1, f1⟩ := a.ext
  obtain ⟨l2, e2, f2⟩ := b.ext
  refine ⟨⟨l1 ++ l2, by rw [e2, e1, List.append_assoc], fun x hx o hxo => ?_⟩, b.nd, fun x o hx ht hm => ?_⟩
  · rcases List.mem_append.mp hx with hx | hx
    · exact f1 x hx o hxo
    · by_cases ht : ∃ ps, o = .tbl ps
      · exact ht
      · have nm : x ∉ m := fun hm => by
          have nd := b.nd
          rw [e2, e1] at nd
          have := (List.nodup_append.mp nd).2.2
          exact this x (List.mem_append_left _ hm) x hx rfl
        exact f2 x hx o (a.frame x o hxo (fun ps e => ht ⟨ps, e⟩) nm)
  · have h1 := a.frame x o hx ht hm
    refine b.frame x o h1 ht ?_
    rw [e1]
    intro q
    rcases List.mem_append.mp q with q | q
    · exact hm q
    · obtain ⟨ps, e⟩ := f1 x q o hx
      exact ht ps e
theorem Step.get (a : Step m H m1 H1) {n : Nat} {x : Addr} (h : m[n]? = some x) : m1[n]? = some x := by
  obtain ⟨l, e, _⟩ := a.ext
  rw [e, List.getElem?_append_left (List.getElem?_eq_some_iff.mp h).1]
  exact h
theorem sqT_step (s : Sim K G m S H) (st : Step m H m1 H1) {p : Addr} {vs : List V} (h : SqT K H p vs) : SqT K H1 p vs := by
  rcases h with (h | ⟨o, h⟩) | h
  · exact .inl (.inl (st.frame _ _ h (fun _ z => by cases z) (s.notMem h (fun z => z))))
  · exact .inl (.inr ⟨o, st.frame _ _ h (fun _ z => by cases z) (s.notMem h (fun z => z))⟩)
  · exact .inr h
theorem sqF_step (s : Sim K G m S H) (st : Step m H m1 H1) {p : Addr} {vs : List V} (h : SqF K H p vs) : SqF K H1 p vs := by
  rcases h with ⟨o, h⟩ | h
  · exact .inl ⟨o, st.frame _ _ h (fun _ z => by cases z) (s.notMem h (fun z => z))⟩
  · exact .inr h
end
mutual
theorem SV.mono {K : PySem.W.Frag} {G : Gx} {m m1 : List Addr} {S : Store} {H H1 : Hp} (s : Sim K G m S H) (st : Step m H m1 H1) : ∀ {d : D} {v : V}, SV K m H d v → SV K m1 H1 d v
  | .non, v, h => h
  | .bl b, v, h => h
  | .int i, v, h => h
  | .str x, v, h => h
  | .tup xs, v, h => by
    obtain ⟨p, vs, e, q, r⟩ := (show ∃ p vs, v = .ref p ∧ SqT K H p vs ∧ SVs K m H xs vs from h)
    exact ⟨p, vs, e, sqT_step s st q, SVs.mono s st r⟩
  | .fl xs, v, h => by
    obtain ⟨p, vs, e, q, r⟩ := (show ∃ p vs, v = .ref p ∧ SqF K H p vs ∧ SVs K m H xs vs from h)
    exact ⟨p, vs, e, sqF_step s st q, SVs.mono s st r⟩
  | .obj n, v, h => by
    obtain ⟨a, e, q⟩ := (show ∃ a, v = .ref a ∧ m[n]? = some a from h)
    exact ⟨a, e, st.get q⟩
theorem SVs.mono {K : PySem.W.Frag} {G : Gx} {m m1 : List Addr} {S : Store} {H H1 : Hp} (s : Sim K G m S H) (st : Step m H m1 H1) : ∀ {ds : List D} {vs : List V}, SVs K m H ds vs → SVs K m1 H1 ds vs
  | [], vs, h => h
  | d :: ds, vs, h => by
    obtain ⟨v, r, e, a, b⟩ := (show ∃ v r, vs = v :: r ∧ SV K m H d v ∧ SVs K m H ds r from h)
    exact ⟨v, r, e, SV.mono s st a, SVs.mono s st b⟩
end
section
variable {K : PySem.W.Frag} {G : Gx} {m m1 m2 : List Addr} {S S1 : Store} {H H1 H2 : Hp}
theorem SF.mono (s : Sim K G m S H) (st : Step m H m1 H1) : ∀ {ds : List (Str × D)} {vs : List (Str × V)}, SF K m H ds vs → SF K m1 H1 ds vs
  | [], vs, h => h
  | (f, d) :: ds, vs, h => by
    obtain ⟨v, r, e, a, b⟩ := (show ∃ v r, vs = (f, v) :: r ∧ SV K m H d v ∧ SF K m H ds r from h)
    exact ⟨v, r, e, SV.mono s st a, SF.mono s st b⟩
theorem SVs.len : ∀ {ds : List D} {vs : List V}, SVs K m H ds vs → ds.length = vs.length
  | [], vs, h => by rw [show vs = [] from h]; rfl
  | d :: ds, vs, h => by
    obtain ⟨v, r, e, a, b⟩ := (show ∃ v r, vs = v :: r ∧ SV K m H d v ∧ SVs K m H ds r from h)
    rw [e, List.length_cons, List.length_cons, SVs.len b]
theorem SVs.get : ∀ {ds : List D} {vs : List V} {i : Nat} {d : D}, SVs K m H ds vs → ds[i]? = some d → ∃ v, vs[i]? = some v ∧ SV K m H d v
  | [], vs, i, d, h, e => by simp at e
  | d' :: ds, vs, i, d, h, e => by
    obtain ⟨v, r, rfl, a, b⟩ := (show ∃ v r, vs = v :: r ∧ SV K m H d' v ∧ SVs K m H ds r from h)
    cases i with
    | zero => simp at e; subst e; exact ⟨v, by simp, a⟩
    | succ i =>
      obtain ⟨u, h1, h2⟩ := SVs.get (i := i) b (by simpa using e)
      exact ⟨u, by simpa using h1, h2⟩
theorem SVs.append : ∀ {ds es : List D} {vs us : List V}, SVs K m H ds vs → SVs K m H es us → SVs K m H (ds ++ es) (vs ++ us)
  | [], es, vs, us, h, q => by rw [show vs = [] from h]; exact q
  | d :: ds, es, vs, us, h, q => by
    obtain ⟨v, r, rfl, a, b⟩ := (show ∃ v r, vs = v :: r ∧ SV K m H d v ∧ SVs K m H ds r from h)
    exact ⟨v, r ++ us, rfl, a, SVs.append b q⟩
theorem SVs.one {d : D} {v : V} (h : SV K m H d v) : SVs K m H [d] [v] := ⟨v, [], rfl, h, rfl⟩
theorem SVs.take : ∀ {ds : List D} {vs : List V} (n : Nat), SVs K m H ds vs → SVs K m H (ds.take n) (vs.take n)
  | [], vs, n, h => by rw [show vs = [] from h]; simp; rfl
  | d :: ds, vs, 0, h => by simp; rfl
  | d :: ds, vs, n + 1, h => by
    obtain ⟨v, r, rfl, a, b⟩ := (show ∃ v r, vs = v :: r ∧ SV K m H d v ∧ SVs K m H ds r from h)
    exact ⟨v, r.take n, rfl, a, SVs.take n b⟩
theorem SVs.drop : ∀ {ds : List D} {vs : List V} (n : Nat), SVs K m H ds vs → SVs K m H (ds.drop n) (vs.drop n)
  | [], vs, n, h => by rw [show vs = [] from h]; simp; rfl
  | d :: ds, vs, 0, h => h
  | d :: ds, vs, n + 1, h => by
    obtain ⟨v, r, rfl, a, b⟩ := (show ∃ v r, vs = v :: r ∧ SV K m H d v ∧ SVs K m H ds r from h)
    exact SVs.drop n b
theorem SVs.set {d : D} {v : V} (q : SV K m H d v) : ∀ {ds : List D} {vs : List V} (n : Nat), SVs K m H ds vs → SVs K m H (ds.set n d) (vs.set n v)
  | [], vs, n, h => by rw [show vs = [] from h]; simp; rfl
  | d' :: ds, vs, 0, h => by
    obtain ⟨u, r, rfl, a, b⟩ := (show ∃ v r, vs = v :: r ∧ SV K m H d' v ∧ SVs K m H ds r from h)
    exact ⟨v, r, rfl, q, b⟩
  | d' :: ds, vs, n + 1, h => by
    obtain ⟨u, r, rfl, a, b⟩ := (show ∃ v r, vs = v :: r ∧ SV K m H d' v ∧ SVs K m H ds r from h)
    exact ⟨u, r.set n v, rfl, a, SVs.set q n b⟩
theorem SF.len : ∀ {ds : List (Str × D)} {vs : List (Str × V)}, SF K m H ds vs → ds.length = vs.length
  | [], vs, h => by rw [show vs = [] from h]; rfl
  | (f, d) :: ds, vs, h => by
    obtain ⟨v, r, e, a, b⟩ := (show ∃ v r, vs = (f, v) :: r ∧ SV K m H d v ∧ SF K m H ds r from h)
    rw [e, List.length_cons, List.length_cons, SF.len b]
theorem SF.look : ∀ {ds : List (Str × D)} {vs : List (Str × V)} {f : Str} {d : D}, SF K m H ds vs → ds.lookup f = some d → ∃ v, vs.lookup f = some v ∧ SV K m H d v
  | [], vs, f, d, h, e => by cases e
  | (g, d') :: ds, vs, f, d, h, e => by
    obtain ⟨v, r, rfl, a, b⟩ := (show ∃ v r, vs = (g, v) :: r ∧ SV K m H d' v ∧ SF K m H ds r from h)
    rw [List.lookup_cons] at e ⊢
    cases q : f == g with
    | true => rw [q] at e; cases e; exact ⟨v, rfl, a⟩
    | false => rw [q] at e; exact SF.look b e
theorem SF.lookN : ∀ {ds : List (Str × D)} {vs : List (Str × V)} {f : Str}, SF K m H ds vs → ds.lookup f = none → vs.lookup f = none
  | [], vs, f, h, e => by rw [show vs = [] from h]; rfl
  | (g, d') :: ds, vs, f, h, e => by
    obtain ⟨v, r, rfl, a, b⟩ := (show ∃ v r, vs = (g, v) :: r ∧ SV K m H d' v ∧ SF K m H ds r from h)
    rw [List.lookup_cons] at e ⊢
    cases q : f == g with
    | true => rw [q] at e; cases e
    | false => rw [q] at e; exact SF.lookN b e
/-- a field put -/
def putD (f : Str) (d : D) : List (Str × D) → List (Str × D)
  | [] => [(f, d)]
  | (g, e) :: r => if g = f then (g, d) :: r else (g, e) :: putD f d r
theorem SF.put {f : Str} {d : D} {v : V} (q : SV K m H d v) : ∀ {ds : List (Str × D)} {vs : List (Str × V)}, SF K m H ds vs → SF K m H (putD f d ds) (putF f v vs)
  | [], vs, h => by rw [show vs = [] from h]; exact ⟨v, [], rfl, q, rfl⟩
  | (g, d') :: ds, vs, h => by
    obtain ⟨u, r, rfl, a, b⟩ := (show ∃ v r, vs = (g, v) :: r ∧ SV K m H d' v ∧ SF K m H ds r from h)
    unfold putD putF
    by_cases e : g = f
    · rw [if_pos e, if_pos e]
      exact ⟨v, r, rfl, q, b⟩
    · rw [if_neg e, if_neg e]
      exact ⟨u, _, rfl, a, SF.put q b⟩
theorem SO.mono (s : Sim K G m S H) (st : Step m H m1 H1) {o : DO} {a : Addr} (h : SO K G m H o a) (ha : H1 a = H a) : SO K G m1 H1 o a := by
  cases o with
  | lst xs =>
    obtain ⟨vs, e, r⟩ := h
    exact ⟨vs, ha.trans e, r.mono s st⟩
  | ins c fs =>
    obtain ⟨dx, vs, e, r⟩ := h
    exact ⟨dx, vs, ha.trans e, r.mono s st⟩
theorem tabs_step {T : List (Addr × Str)} (t : LamX.Tabs T H) (e : ∀ b o, H b = some o → ¬ MutO o → H1 b = some o) : LamX.Tabs T H1 := fun p hp => by
  obtain ⟨ps, h1, h2, h3⟩ := t p hp
  refine ⟨ps, e _ _ h1 (fun z => z), h2, fun pos cv hc => ?_⟩
  obtain ⟨c, e1, e2⟩ := h3 pos cv hc
  exact ⟨c, e1, e _ _ e2 (fun z => by unfold LamX.CodeO at z; exact z)⟩
/-- something new beside the store -/
theorem Step.beside (s : Sim K G m S H) {p : Addr} {o : HO} (hp : H p = none) : Step m H m (upd H p o) :=
  ⟨⟨[], by simp⟩, s.nd, fun b u e _ _ => by rw [upd_ne (ne_of_none e hp)]; exact e⟩
theorem Sim.beside (s : Sim K G m S H) {p : Addr} {o : HO} (hp : H p = none) : Sim K G m S (upd H p o) := by
  have st : Step m H m (upd H p o) := Step.beside s hp
  refine ⟨s.len, s.nd, fun n ob a h1 h2 => ?_, tabs_step s.tabs fun b u e _ => by rw [upd_ne (ne_of_none e hp)]; exact e⟩
  have hm : a ∈ m := List.mem_of_getElem? h2
  obtain ⟨u, e, _⟩ := s.mem hm
  exact (s.at_ n ob a h1 h2).mono s st (by rw [upd_ne (ne_of_none e hp)])
/-- a new object of the store -/
theorem Step.new (s : Sim K G m S H) {p : Addr} {o : HO} (hp : H p = none) : Step m H (m ++ [p]) (upd H p o) := by
  refine ⟨⟨[p], rfl, fun a ha o e => by rw [List.mem_singleton.mp ha, hp] at e; cases e⟩, ?_, fun b u e _ _ => by rw [upd_ne (ne_of_none e hp)]; exact e⟩
  rw [List.nodup_append]
  refine ⟨s.nd, by simp, fun a ha b hb e => ?_⟩
  rw [List.mem_singleton.mp hb] at e
  exact s.fresh hp (e ▸ ha)
theorem Sim.new (s : Sim K G m S H) {p : Addr} {o : HO} {ob : DO} (hp : H p = none) (h : SO K G (m ++ [p]) (upd H p o) ob p) : Sim K G (m ++ [p]) (S ++ [ob]) (upd H p o) := by
  have st : Step m H (m ++ [p]) (upd H p o) := Step.new s hp
  refine ⟨by simp [s.len], st.nd, fun n ob' a h1 h2 => ?_, tabs_step s.tabs fun b u e _ => by rw [upd_ne (ne_of_none e hp)]; exact e⟩
  by_cases hn : n < S.length
  · rw [List.getElem?_append_left hn] at h1
    rw [List.getElem?_append_left (by rw [s.len]; exact hn)] at h2
    have hm : a ∈ m := List.mem_of_getElem? h2
    obtain ⟨u, e, _⟩ := s.mem hm
    exact (s.at_ n ob' a h1 h2).mono s st (by rw [upd_ne (ne_of_none e hp)])
  · rw [List.getElem?_append_right (by omega)] at h1
    rw [List.getElem?_append_right (by rw [s.len]; omega), s.len] at h2
    have e : n - S.length = 0 := by
      cases q : n - S.length with
      | zero => rfl
      | succ k => rw [q] at h1; simp at h1
    rw [e] at h1 h2
    simp at h1 h2
    rw [← h1, ← h2]
    exact h
/-- an object of the store changed -/
theorem Step.put (s : Sim K G m S H) {n : Nat} {p : Addr} {o : HO} (hp : m[n]? = some p) : Step m H m (upd H p o) := by
  have hm : p ∈ m := List.mem_of_getElem? hp
  refine ⟨⟨[], by simp⟩, s.nd, fun b u e _ nb => ?_⟩
  have ne : b ≠ p := fun z => nb (by rw [z]; exact hm)
  rw [upd_ne ne]; exact e
theorem Sim.put (s : Sim K G m S H) {n : Nat} {p : Addr} {o : HO} {ob : DO} (hp : m[n]? = some p) (h : SO K G m (upd H p o) ob p) : Sim K G m (S.set n ob) (upd H p o) := by
  have st : Step m H m (upd H p o) := Step.put s hp
  have hm : p ∈ m := List.mem_of_getElem? hp
  obtain ⟨op, ep, mu⟩ := s.mem hm
  refine ⟨by simp [s.len], s.nd, fun k ob' a h1 h2 => ?_, tabs_step s.tabs fun b u e nm => ?_⟩
  · by_cases hk : n = k
    · subst hk
      have hlt : n < S.length := by rw [← s.len]; exact (List.getElem?_eq_some_iff.mp hp).1
      rw [List.getElem?_set_self hlt] at h1
      rw [hp] at h2
      cases h1; cases h2
      exact h
    · rw [List.getElem?_set_ne hk] at h1
      have ne : a ≠ p := fun e => by
        subst e
        exact hk ((List.getElem?_inj (List.getElem?_eq_some_iff.mp hp).1 s.nd).mp (hp.trans h2.symm))
      exact (s.at_ k ob' a h1 h2).mono s st (by rw [upd_ne ne])
  · have ne : b ≠ p := fun z => by
      subst z
      rw [ep] at e
      cases e
      exact nm mu
    rw [upd_ne ne]; exact e
end

/-! ### denotations and what they promise -/
abbrev DE := DEnv → Store → Out D
abbrev DA := DEnv → Store → Out (List D)
abbrev DT := DEnv → Store → Out Bool
/-- slots -/
def SR (K : PySem.W.Frag) (m : List Addr) (H : Hp) (ρ : DEnv) (σ : L2.St) : Prop := ρ.length = σ.length ∧ ∀ (i : Nat) (d : D), ρ[i]? = some (some d) → ∃ v, σ[i]? = some (some v) ∧ SV K m H d v
theorem SR.mono {K : PySem.W.Frag} {G : Gx} {m m1 : List Addr} {S : Store} {H H1 : Hp} {ρ : DEnv} {σ : L2.St} (h : SR K m H ρ σ) (s : Sim K G m S H) (st : Step m H m1 H1) : SR K m1 H1 ρ σ :=
  ⟨h.1, fun i d e => by
    obtain ⟨v, h1, h2⟩ := h.2 i d e
    exact ⟨v, h1, h2.mono s st⟩⟩
theorem SR.set {K : PySem.W.Frag} {m : List Addr} {H : Hp} {ρ : DEnv} {σ : L2.St} (h : SR K m H ρ σ) (i : Nat) {d : D} {v : V} (q : SV K m H d v) : SR K m H (ρ.set i (some d)) (σ.set i (some v)) := by
  refine ⟨by simp [h.1], fun j e hj => ?_⟩
  by_cases hij : i = j
  · subst hij
    have hlt : i < ρ.length := by
      have := (List.getElem?_eq_some_iff.mp hj).1
      simpa using this
    rw [List.getElem?_set_self hlt] at hj
    cases hj
    exact ⟨v, by rw [List.getElem?_set_self (by rw [← h.1]; exact hlt)], q⟩
  · rw [List.getElem?_set_ne hij] at hj
    obtain ⟨u, h1, h2⟩ := h.2 j e hj
    exact ⟨u, by rw [List.getElem?_set_ne hij]; exact h1, h2⟩
/-- what is told of an exception -/
def XO (G : Gx) (e : Exc) (cls : Value) (_ : Option Addr) : Prop := cls = .ref (G.cA e.c)
section
variable {α β γ δ : Type}
/-- what must hold of an outcome -/
def EO (K : PySem.W.Frag) (G : Gx) (rel : List Addr → Hp → α → β → Prop) (Q : β → Hp → Prop) (Wc : Value → Option Addr → Hp → Prop) (m : List Addr) (H : Hp) : Out α → Prop
  | .ok a S' => ∀ b H' m', Step m H m' H' → Sim K G m' S' H' → rel m' H' a b → Q b H'
  | .exn e S' => ∀ cls dx H' m', Step m H m' H' → Sim K G m' S' H' → XO G e cls dx → Wc cls dx H'
  | .bad => False
variable {K : PySem.W.Frag} {G : Gx} {rel : List Addr → Hp → α → β → Prop} {rel' : List Addr → Hp → γ → δ → Prop} {Q : β → Hp → Prop} {Q' : δ → Hp → Prop} {Wc : Value → Option Addr → Hp → Prop} {m m1 : List Addr} {H H1 : Hp}
theorem EO.step {o : Out α} (h : EO K G rel Q Wc m H o) (st : Step m H m1 H1) : EO K G rel Q Wc m1 H1 o := by
  cases o with
  | ok a S => exact fun b H' m' s1 s2 r => h b H' m' (st.trans s1) s2 r
  | exn e S => exact fun cls dx H' m' s1 s2 r => h cls dx H' m' (st.trans s1) s2 r
  | bad => exact h.elim
theorem EO.then {o : Out α} {k : α → Store → Out γ} (h : EO K G rel' Q' Wc m H (o.bind k))
    (f : ∀ a S1 b H1 m1, Step m H m1 H1 → Sim K G m1 S1 H1 → rel m1 H1 a b → EO K G rel' Q' Wc m1 H1 (k a S1) → Q b H1) : EO K G rel Q Wc m H o := by
  cases o with
  | ok a S => exact fun b H' m' s1 s2 r => f a S b H' m' s1 s2 r (EO.step h s1)
  | exn e S => exact h
  | bad => exact h.elim
theorem EO.imp {o : Out α} {Q2 : β → Hp → Prop} (h : EO K G rel Q Wc m H o) (f : ∀ b H, Q b H → Q2 b H) : EO K G rel Q2 Wc m H o := by
  cases o with
  | ok a S => exact fun b H' m' s1 s2 r => f _ _ (h b H' m' s1 s2 r)
  | exn e S => exact h
  | bad => exact h.elim
end
def eqR {α : Type} : List Addr → Hp → α → α → Prop := fun _ _ a b => a = b
section
variable (K : PySem.W.Frag) (G : Gx) (W : WX)
def tD (f : DE) : TE := fun σ H Q => ∃ m ρ S, SR K m H ρ σ ∧ Sim K G m S H ∧ EO K G (SV K) Q (fun c d H' => W c d σ H') m H (f ρ S)
def tDA (f : DA) : TA := fun σ H Q => ∃ m ρ S, SR K m H ρ σ ∧ Sim K G m S H ∧ EO K G (SVs K) Q (fun c d H' => W c d σ H') m H (f ρ S)
def tDT (f : DT) : TT := fun σ H Q => ∃ m ρ S, SR K m H ρ σ ∧ Sim K G m S H ∧ EO K G eqR Q (fun c d H' => W c d σ H') m H (f ρ S)
end
abbrev JE (X : Cx) (G : Gx) (W : WX) (e : Expr) (f : DE) : Prop := PE X e (tD X.K G W f)
abbrev JA (X : Cx) (G : Gx) (W : WX) (es : List Expr) (f : DA) : Prop := PA X es (tDA X.K G W f)
abbrev JT (X : Cx) (G : Gx) (W : WX) (e : Expr) (f : DT) : Prop := PT X e (tDT X.K G W f)
abbrev JW (X : Cx) (G : Gx) (W : WX) (e : Expr) (f : DT) : Prop := PW X e (tDT X.K G W f)
theorem PE.imp {X : Cx} {e : Expr} {t t' : TE} (h : PE X e t) (f : ∀ σ H Q, t' σ H Q → t σ H Q) : PE X e t' := ⟨fun pins s σ H Q I q => h.run pins s σ H Q I (f σ H Q q)⟩
theorem PT.imp {X : Cx} {e : Expr} {t t' : TT} (h : PT X e t) (f : ∀ σ H Q, t' σ H Q → t σ H Q) : PT X e t' := ⟨fun pins s σ H Q I q => h.run pins s σ H Q I (f σ H Q q)⟩
theorem PW.imp {X : Cx} {e : Expr} {t t' : TT} (h : PW X e t) (f : ∀ σ H Q, t' σ H Q → t σ H Q) : PW X e t' := ⟨fun wh pins s σ H Q I q => h.run wh pins s σ H Q I (f σ H Q q)⟩
theorem PA.imp {X : Cx} {e : List Expr} {t t' : TA} (h : PA X e t) (f : ∀ σ H Q, t' σ H Q → t σ H Q) : PA X e t' := ⟨fun pos pins s σ H Q I q => h.run pos pins s σ H Q I (f σ H Q q)⟩
theorem OpR.imp {X : Cx} {f : Value → Value → Sem Value} {r r' : R2} (h : OpR X f r) (g : ∀ x y H Q, r' x y H Q → r x y H Q) : OpR X f r' := fun pins s σ H x y v u Q I r1 r2 q => h pins s σ H x y v u Q I r1 r2 (g x y H Q q)
theorem UnR.imp {X : Cx} {f : Value → Sem Value} {r r' : V → Hp → VK → Prop} (h : UnR X f r) (g : ∀ x H Q, r' x H Q → r x H Q) : UnR X f r' := fun pins s σ H x v Q I r1 q => h pins s σ H x v Q I r1 (g x H Q q)
theorem CallR.imp {X : Cx} {f : Value} {r r' : List V → Hp → VK → Prop} (h : CallR X f r) (g : ∀ x H Q, r' x H Q → r x H Q) : CallR X f r' := fun pins s σ H x v Q I r1 q => h pins s σ H x v Q I r1 (g x H Q q)

/-! ### names, constants -/
def dVar (i : Nat) : DE := fun ρ S => match ρ[i]? with
  | some (some d) => .ok d S
  | _ => .bad
def dC (d : D) : DE := fun _ S => .ok d S
section
variable {X : Cx} {G : Gx} {W : WX}
theorem je_var (i : Nat) {x : Str} {pos : Pos} (hN : X.N[i]? = some x := by rfl) (hv : Vis X.env.scope x := by first | exact Or.inl rfl | exact Or.inr (Or.inl rfl) | exact Or.inr (Or.inr rfl)) (hd : (x == ("__debug__" : Str)) = false := by decide)
    (hcd : (x == ("__classdict__" : Str)) = false := by decide) : JE X G W (.Name x pos) (dVar i) :=
  PE.imp (pe_var hN hv hd hcd) fun σ H Q ⟨m, ρ, S, sr, sm, eo⟩ => by
    unfold dVar at eo
    split at eo
    · rename_i d e
      obtain ⟨v, h1, h2⟩ := sr.2 i d e
      exact ⟨v, h1, eo v H m sm.refl sm h2⟩
    · exact eo.elim
theorem je_int {i j pos} : JE X G W (.Constant (.int i) j pos) (dC (.int i)) := PE.imp pe_int fun σ H Q ⟨m, ρ, S, sr, sm, eo⟩ => eo _ H m sm.refl sm rfl
theorem je_bl {i j pos} : JE X G W (.Constant (.bool i) j pos) (dC (.bl i)) := PE.imp pe_bl fun σ H Q ⟨m, ρ, S, sr, sm, eo⟩ => eo _ H m sm.refl sm rfl
theorem je_str {i j pos} : JE X G W (.Constant (.str i) j pos) (dC (.str i)) := PE.imp pe_str fun σ H Q ⟨m, ρ, S, sr, sm, eo⟩ => eo _ H m sm.refl sm rfl
theorem je_non {j pos} : JE X G W (.Constant .none j pos) (dC .non) := PE.imp pe_non fun σ H Q ⟨m, ρ, S, sr, sm, eo⟩ => eo _ H m sm.refl sm rfl
end

/-! ### operators -/
abbrev D2 := D → D → Store → Option (D × Store)
def dOp (g : D2) (fa fb : DE) : DE := fun ρ S => (fa ρ S).bind fun x S1 => (fb ρ S1).bind fun y S2 => optO (g x y S2)
/-- what an operator promises -/
def OR (K : PySem.W.Frag) (G : Gx) (g : D2) : R2 := fun x y H Q => ∃ m S a b d S', Sim K G m S H ∧ SV K m H a x ∧ SV K m H b y ∧ g a b S = some (d, S') ∧ ∀ v H' m', Step m H m' H' → Sim K G m' S' H' → SV K m' H' d v → Q v H'
abbrev JOp (X : Cx) (G : Gx) (f : Value → Value → Sem Value) (g : D2) : Prop := OpR X f (OR X.K G g)
section
variable {X : Cx} {G : Gx} {W : WX}
theorem je_op {op : Operator} {g : D2} {a b : Expr} {fa fb : DE} {pos : Pos} (ho : JOp X G (binaryOp op) g) (ha : JE X G W a fa) (hb : JE X G W b fb) : JE X G W (.BinOp a op b pos) (dOp g fa fb) :=
  PE.imp (pe_op ho ha hb) fun σ H Q ⟨m, ρ, S, sr, sm, eo⟩ =>
    ⟨m, ρ, S, sr, sm, eo.then fun x S1 v H1 m1 st1 sm1 r1 eo1 => ⟨m1, ρ, S1, sr.mono sm st1, sm1, eo1.then fun y S2 u H2 m2 st2 sm2 r2 eo2 => by
      cases q : g x y S2 with
      | none => rw [q] at eo2; exact eo2.elim
      | some p =>
        obtain ⟨d, S3⟩ := p
        rw [q] at eo2
        exact ⟨m2, S2, x, y, d, S3, sm2, r1.mono sm1 st2, r2, q, eo2⟩⟩⟩
end
end DL
set_option Elab.async false
set_option linter.all false
set_option maxRecDepth 100000
set_option maxHeartbeats 2000000
namespace DL
open PySem PySem.Spec PyProof.Rows L2
/-! ### the store's own operations -/
def newO (ob : DO) (S : Store) : D × Store := (.obj S.length, S ++ [ob])
section
variable {K : PySem.W.Frag} {G : Gx} {m m1 : List Addr} {S S1 : Store} {H H1 : Hp}
theorem sv_tup {p : Addr} {ds : List D} {vs : List V} (h : SVs K m H ds vs) (s : Sim K G m S H) (hp : H p = none) : SV K m (upd H p (.tup vs)) (.tup ds) (.ref p) :=
  ⟨p, vs, rfl, SqT.of upd_same, h.mono s (Step.beside s hp)⟩
theorem sim_lst {p : Addr} {ds : List D} {vs : List V} (h : SVs K m H ds vs) (s : Sim K G m S H) (hp : H p = none) : Sim K G (m ++ [p]) (S ++ [.lst ds]) (upd H p (.lst vs)) :=
  s.new hp ⟨vs, upd_same, h.mono s (Step.new s hp)⟩
theorem sv_new (s : Sim K G m S H) {p : Addr} : SV K (m ++ [p]) H1 (.obj S.length) (.ref p) := ⟨p, rfl, by rw [← s.len]; simp⟩
/-- the store's list -/
def lstAt (S : Store) (n : Nat) : Option (List D) := match S[n]? with
  | some (.lst xs) => some xs
  | _ => none
theorem lstAt_ok (s : Sim K G m S H) {n : Nat} {xs : List D} (h : lstAt S n = some xs) : ∃ a vs, m[n]? = some a ∧ H a = some (.lst vs) ∧ SVs K m H xs vs := by
  unfold lstAt at h
  split at h
  · rename_i ys e
    cases h
    have hn : n < m.length := by rw [s.len]; exact (List.getElem?_eq_some_iff.mp e).1
    obtain ⟨vs, h1, h2⟩ := s.at_ n _ m[n] e (by simp [hn])
    exact ⟨m[n], vs, by simp [hn], h1, h2⟩
  · cases h
/-- a sequence that is read: a tuple, a fixed list, a list -/
def seqAt (S : Store) : D → Option (List D)
  | .tup xs => some xs
  | .fl xs => some xs
  | .obj n => lstAt S n
  | _ => none
theorem seqAt_ok (s : Sim K G m S H) {d : D} {v : V} {xs : List D} (h : seqAt S d = some xs) (r : SV K m H d v) : ∃ p vs, v = .ref p ∧ SVs K m H xs vs ∧ (SqL K H p vs ∨ SqT K H p vs) := by
  cases d with
  | tup ys => cases h; obtain ⟨p, vs, e, q, r⟩ := r; exact ⟨p, vs, e, r, .inr q⟩
  | fl ys => cases h; obtain ⟨p, vs, e, q, r⟩ := r; exact ⟨p, vs, e, r, .inl q.l⟩
  | obj n =>
    obtain ⟨a, e, hm⟩ := r
    obtain ⟨a', vs, h1, h2, h3⟩ := lstAt_ok s h
    rw [hm] at h1; cases h1
    exact ⟨a, vs, e, h3, .inl (SqL.of h2)⟩
  | _ => cases h
end
/-! ### arithmetic -/
def b2 (b : Bool) : Int := if b = true then 1 else 0
def addD : D2
  | .int i, .int j, S => some (.int (i + j), S)
  | .str x, .str y, S => if x.length + y.length ≤ 1000000 then some (.str (x ++ y), S) else none
  | .tup xs, .tup ys, S => if xs.length + ys.length ≤ 1000000 then some (.tup (xs ++ ys), S) else none
  | .obj n, .obj k, S => match lstAt S n, lstAt S k with
    | some xs, some ys => if xs.length + ys.length ≤ 1000000 then some (newO (.lst (xs ++ ys)) S) else none
    | _, _ => none
  | _, _, _ => none
def subD : D2
  | .int i, .int j, S => some (.int (i - j), S)
  | .bl i, .bl j, S => some (.int (b2 i - b2 j), S)
  | _, _, _ => none
def mulD : D2
  | .int i, .int j, S => if (i.natAbs < 18446744073709551616 ∨ j.natAbs < 18446744073709551616) ∨ i.natAbs.log2 + j.natAbs.log2 < 1000000 then some (.int (i * j), S) else none
  | .tup xs, .int k, S => if k ≤ 1000 ∧ xs.length ≤ 1000 ∧ xs ≠ [] ∧ -1000 ≤ k then some (.tup (List.replicate k.toNat xs).flatten, S) else none
  | _, _, _ => none
def fdivD : D2
  | .int i, .int j, S => if 0 < j ∧ j.natAbs.log2 < 9000 then some (.int (i / j), S) else none
  | _, _, _ => none
def modD : D2
  | .int i, .int j, S => if 0 < j then some (.int (i % j), S) else none
  | _, _, _ => none
def powD : D2
  | .int i, .int j, S => if 0 ≤ j ∧ j ≤ 1000000 ∧ i.natAbs < 2 ^ 64 then some (.int (i ^ j.toNat), S) else none
  | _, _, _ => none
theorem size6 {n : Nat} (h : n ≤ 1000000) : n ≤ sizeLine := Nat.le_trans h (by decide)
theorem int_sub_bb (a b : Bool) : Gives (Builtin.«int.__sub__» ⟨[.bool a, .bool b], []⟩) (.int ((if a = true then (1 : Int) else 0) - (if b = true then (1 : Int) else 0))) :=
  .of_wp fun M A E s Q h => by obtain ⟨hp, g, d, tk, os⟩ := s; wp_walk; exact ⟨_, rfl, h⟩
section
variable {X : Cx} {G : Gx} {W : WX}
theorem op_sub_bb : OpR X (binaryOp .Sub) (fun x y H Q => ∃ i j, x = .bl i ∧ y = .bl j ∧ Q (.int (b2 i - b2 j)) H) := by
  intro pins s σ H x y v u Q I rx ry h
  obtain ⟨i, j, rfl, rfl, q⟩ := h
  cases rx
  cases ry
  refine wpAny_binaryOp_same (op := .Sub) (T := "bool") rfl rfl F.fills_bool_sub F.slot_bool_sub ?_
  exact call_gives F.slot_bool_sub rfl F.entry_int_sub (F.args_int_sub_2 _ _) (int_sub_bb i j) ⟨(fun z => by cases z), ⟨.int _, H, I.tok _, ⟨_, rfl⟩, q⟩⟩
theorem jop_add : JOp X G (binaryOp .Add) addD := by
  refine OpR.imp (OpR.or op_add (OpR.or op_add_str (OpR.or op_catA op_cat))) fun x y H Q ⟨m, S, a, b, d, S', sm, ra, rb, e, k⟩ => ?_
  unfold addD at e
  split at e
  · rename_i S i j
    cases e; cases ra; cases rb
    exact .inl ⟨i, j, rfl, rfl, k _ H m sm.refl sm rfl⟩
  · rename_i S i j
    split at e
    · rename_i hz
      cases e; cases ra; cases rb
      exact .inr (.inl ⟨i, j, rfl, rfl, size6 hz, k _ H m sm.refl sm rfl⟩)
    · cases e
  · rename_i S xs ys
    split at e
    · rename_i hz
      cases e
      obtain ⟨p, vs, rfl, q, r⟩ := ra
      obtain ⟨p', vs', rfl, q', r'⟩ := rb
      have h1 := r.len
      have h2 := r'.len
      refine .inr (.inr (.inl ⟨p, p', vs, vs', rfl, rfl, q, q', by rw [← h1, ← h2]; exact size6 hz, fun e => ?_, fun _ e => ?_, fun _ _ p hp => ?_⟩))
      · subst e
        have : xs = [] := List.length_eq_zero_iff.mp h1
        subst this
        exact k _ H m sm.refl sm ⟨p', vs', rfl, q', r'⟩
      · subst e
        have : ys = [] := List.length_eq_zero_iff.mp h2
        subst this
        rw [List.append_nil] at k
        exact k _ H m sm.refl sm ⟨p, vs, rfl, q, r⟩
      · exact k _ _ m (Step.beside sm hp) (sm.beside hp) (sv_tup (r.append r') sm hp)
    · cases e
  · rename_i S n l
    split at e
    · rename_i xs ys e1 e2
      split at e
      · rename_i hz
        cases e
        obtain ⟨a, rfl, hm⟩ := ra
        obtain ⟨b, rfl, hm'⟩ := rb
        obtain ⟨a', vs, h1, h2, h3⟩ := lstAt_ok sm e1
        rw [hm] at h1; cases h1
        obtain ⟨b', vs', h1', h2', h3'⟩ := lstAt_ok sm e2
        rw [hm'] at h1'; cases h1'
        refine .inr (.inr (.inr ⟨a, b, vs, vs', rfl, rfl, h2, h2', by rw [← h3.len, ← h3'.len]; exact size6 hz, fun p hp => ?_⟩))
        exact k _ _ (m ++ [p]) (Step.new sm hp) (sim_lst (h3.append h3') sm hp) (sv_new sm)
      · cases e
    · cases e
  · cases e
theorem jop_sub : JOp X G (binaryOp .Sub) subD := by
  refine OpR.imp (OpR.or op_sub op_sub_bb) fun x y H Q ⟨m, S, a, b, d, S', sm, ra, rb, e, k⟩ => ?_
  unfold subD at e
  split at e
  · rename_i S i j
    cases e; cases ra; cases rb
    exact .inl ⟨i, j, rfl, rfl, k _ H m sm.refl sm rfl⟩
  · rename_i S i j
    cases e; cases ra; cases rb
    exact .inr ⟨i, j, rfl, rfl, k _ H m sm.refl sm rfl⟩
  · cases e
theorem jop_fdiv : JOp X G (binaryOp .FloorDiv) fdivD := by
  refine OpR.imp op_fdivW fun x y H Q ⟨m, S, a, b, d, S', sm, ra, rb, e, k⟩ => ?_
  unfold fdivD at e
  split at e
  · rename_i S i j
    split at e
    · rename_i hz
      cases e; cases ra; cases rb
      exact ⟨i, j, rfl, rfl, hz, k _ H m sm.refl sm rfl⟩
    · cases e
  · cases e
theorem jop_mod : JOp X G (binaryOp .Mod) modD := by
  refine OpR.imp op_mod fun x y H Q ⟨m, S, a, b, d, S', sm, ra, rb, e, k⟩ => ?_
  unfold modD at e
  split at e
  · rename_i S i j
    split at e
    · rename_i hz
      cases e; cases ra; cases rb
      exact ⟨i, j, rfl, rfl, hz, k _ H m sm.refl sm rfl⟩
    · cases e
  · cases e
theorem jop_pow : JOp X G (binaryOp .Pow) powD := by
  refine OpR.imp op_pow fun x y H Q ⟨m, S, a, b, d, S', sm, ra, rb, e, k⟩ => ?_
  unfold powD at e
  split at e
  · rename_i S i j
    split at e
    · rename_i hz
      cases e; cases ra; cases rb
      exact ⟨i, j, rfl, rfl, hz, k _ H m sm.refl sm rfl⟩
    · cases e
  · cases e
end
/-! ### one-place -/
abbrev D1 := D → Store → Option (D × Store)
def dUn (g : D1) (fa : DE) : DE := fun ρ S => (fa ρ S).bind fun x S1 => optO (g x S1)
def negD : D1
  | .int i, S => some (.int (-i), S)
  | _, _ => none
def notD : D1
  | .bl i, S => some (.bl (!i), S)
  | _, _ => none
section
variable {X : Cx} {G : Gx} {W : WX} {a b c : Expr} {fa fb fc : DE} {ga gb gc : DT} {pos : Pos} {rest : List Expr}
theorem je_neg (ha : JE X G W a fa) : JE X G W (.UnaryOp .USub a pos) (dUn negD fa) :=
  PE.imp (pe_un un_neg ha) fun σ H Q ⟨m, ρ, S, sr, sm, eo⟩ => ⟨m, ρ, S, sr, sm, eo.then fun x S1 v H1 m1 st1 sm1 r1 eo1 => by
    cases x with
    | int i => cases r1; exact ⟨i, rfl, eo1 _ H1 m1 sm1.refl sm1 rfl⟩
    | _ => exact eo1.elim⟩
theorem je_not (ha : JE X G W a fa) : JE X G W (.UnaryOp .Not a pos) (dUn notD fa) :=
  PE.imp (pe_not ha) fun σ H Q ⟨m, ρ, S, sr, sm, eo⟩ => ⟨m, ρ, S, sr, sm, eo.then fun x S1 v H1 m1 st1 sm1 r1 eo1 => by
    cases x with
    | bl i => cases r1; exact ⟨i, rfl, eo1 _ H1 m1 sm1.refl sm1 rfl⟩
    | _ => exact eo1.elim⟩
/-! ### comparisons -/
def cmpI (p : Int → Int → Bool) : D2
  | .int i, .int j, S => some (.bl (p i j), S)
  | _, _, _ => none
theorem jop_I {f : Value → Value → Sem Value} {p : Int → Int → Bool} (h : OpR X f (rI0 fun i j => .bl (p i j))) : JOp X G f (cmpI p) :=
  OpR.imp h fun x y H Q ⟨m, S, a, b, d, S', sm, ra, rb, e, k⟩ => by
    unfold cmpI at e
    split at e
    · rename_i S i j
      cases e; cases ra; cases rb
      exact ⟨i, j, rfl, rfl, k _ H m sm.refl sm rfl⟩
    · cases e
abbrev ltD : D2 := cmpI fun i j => decide (i < j)
abbrev leD : D2 := cmpI fun i j => decide (i ≤ j)
abbrev gtD : D2 := cmpI fun i j => decide (j < i)
abbrev geD : D2 := cmpI fun i j => decide (j ≤ i)
theorem jop_lt : JOp X G (compareOp .Lt) ltD := jop_I op_lt
theorem jop_le : JOp X G (compareOp .LtE) leD := jop_I op_le
theorem jop_gt : JOp X G (compareOp .Gt) gtD := jop_I op_gt
theorem jop_ge : JOp X G (compareOp .GtE) geD := jop_I op_ge
end
mutual
def D.toP : D → Option PyData
  | .non => some .none
  | .bl b => some (.bool b)
  | .int i => some (.int i)
  | .str x => some (.str x)
  | .tup xs => (D.toPs xs).map PyData.tuple
  | .fl xs => (D.toPs xs).map PyData.list
  | .obj _ => none
def D.toPs : List D → Option (List PyData)
  | [] => some []
  | d :: ds => match D.toP d, D.toPs ds with
    | some p, some ps => some (p :: ps)
    | _, _ => none
end
mutual
theorem toP_ok {K : PySem.W.Frag} {m : List Addr} {H : Hp} : ∀ {d : D} {v : V} {p : PyData}, D.toP d = some p → SV K m H d v → Dp K H v p
  | .non, v, p, e, h => by cases e; cases h; exact .non
  | .bl b, v, p, e, h => by cases e; cases h; exact .bl b
  | .int b, v, p, e, h => by cases e; cases h; exact .int b
  | .str b, v, p, e, h => by cases e; cases h; exact .str b
  | .tup xs, v, p, e, h => by
    obtain ⟨a, vs, rfl, q, r⟩ := (show ∃ p vs, v = .ref p ∧ SqT K H p vs ∧ SVs K m H xs vs from h)
    have e : (D.toPs xs).map PyData.tuple = some p := e
    cases z : D.toPs xs with
    | none => rw [z] at e; cases e
    | some ps => rw [z] at e; cases e; exact .tup q (toPs_ok z r)
  | .fl xs, v, p, e, h => by
    obtain ⟨a, vs, rfl, q, r⟩ := (show ∃ p vs, v = .ref p ∧ SqF K H p vs ∧ SVs K m H xs vs from h)
    have e : (D.toPs xs).map PyData.list = some p := e
    cases z : D.toPs xs with
    | none => rw [z] at e; cases e
    | some ps => rw [z] at e; cases e; exact .lst q.l (toPs_ok z r)
  | .obj n, v, p, e, h => by cases e
theorem toPs_ok {K : PySem.W.Frag} {m : List Addr} {H : Hp} : ∀ {ds : List D} {vs : List V} {ps : List PyData}, D.toPs ds = some ps → SVs K m H ds vs → DpAll K H vs ps
  | [], vs, ps, e, h => by cases e; rw [show vs = [] from h]; exact .nil
  | d :: ds, vs, ps, e, h => by
    obtain ⟨v, r, rfl, a, b⟩ := (show ∃ v r, vs = v :: r ∧ SV K m H d v ∧ SVs K m H ds r from h)
    have e : (match D.toP d, D.toPs ds with
      | some p, some ps => some (p :: ps)
      | _, _ => none) = some ps := e
    cases z1 : D.toP d with
    | none => rw [z1] at e; cases e
    | some p =>
      cases z2 : D.toPs ds with
      | none => rw [z1, z2] at e; cases e
      | some q => rw [z1, z2] at e; cases e; exact .cons (toP_ok z1 a) (toPs_ok z2 b)
end
def D.toPS (S : Store) : D → Option PyData
  | .obj n => match lstAt S n with
    | some xs => (D.toPs xs).map PyData.list
    | none => none
  | d => D.toP d
theorem toPS_ok {K : PySem.W.Frag} {G : Gx} {m : List Addr} {S : Store} {H : Hp} (sm : Sim K G m S H) {d : D} {v : V} {p : PyData} (e : D.toPS S d = some p) (h : SV K m H d v) : Dp K H v p := by
  cases d with
  | obj n =>
    obtain ⟨a, rfl, hm⟩ := h
    unfold D.toPS at e
    dsimp only at e
    cases z : lstAt S n with
    | none => rw [z] at e; cases e
    | some xs =>
      rw [z] at e
      dsimp only at e
      obtain ⟨a', vs, h1, h2, h3⟩ := lstAt_ok sm z
      rw [hm] at h1; cases h1
      cases z2 : D.toPs xs with
      | none => rw [z2] at e; cases e
      | some ps => rw [z2] at e; cases e; exact .lst (SqL.of h2) (toPs_ok z2 h3)
  | _ => exact toP_ok e h
def eqD : D2 := fun a b S => match D.toPS S a, D.toPS S b with
  | some p, some q => if SeqAt.shaped p = true ∧ SeqAt.shaped q = true then some (.bl (PyData.eqv p q), S) else none
  | _, _ => none
def neD : D2 := fun a b S => match D.toPS S a, D.toPS S b with
  | some p, some q => if SeqAt.shaped p = true ∧ SeqAt.shaped q = true then some (.bl (!PyData.eqv p q), S) else none
  | _, _ => none
section
variable {X : Cx} {G : Gx} {W : WX} {a b c : Expr} {fa fb fc : DE} {ga gb gc : DT} {pos : Pos} {rest : List Expr}
theorem jop_eq (hu : X.A.units + 64 < cLine) : JOp X G (compareOp .Eq) eqD :=
  OpR.imp (op_eqD hu) fun x y H Q ⟨m, S, a, b, d, S', sm, ra, rb, e, k⟩ => by
    unfold eqD at e
    split at e
    · rename_i p q e1 e2
      split at e
      · rename_i hs
        cases e
        exact ⟨p, q, toPS_ok sm e1 ra, toPS_ok sm e2 rb, hs.1, hs.2, k _ H m sm.refl sm rfl⟩
      · cases e
    · cases e
theorem jop_ne (hu : X.A.units + 64 < cLine) : JOp X G (compareOp .NotEq) neD :=
  OpR.imp (op_neD hu) fun x y H Q ⟨m, S, a, b, d, S', sm, ra, rb, e, k⟩ => by
    unfold neD at e
    split at e
    · rename_i p q e1 e2
      split at e
      · rename_i hs
        cases e
        exact ⟨p, q, toPS_ok sm e1 ra, toPS_ok sm e2 rb, hs.1, hs.2, k _ H m sm.refl sm rfl⟩
      · cases e
    · cases e
def isND : D2
  | .non, .non, S => some (.bl true, S)
  | .bl _, .non, S => some (.bl false, S)
  | .int _, .non, S => some (.bl false, S)
  | .str _, .non, S => some (.bl false, S)
  | .tup _, .non, S => some (.bl false, S)
  | .obj _, .non, S => some (.bl false, S)
  | _, _, _ => none
def notND : D2
  | .non, .non, S => some (.bl false, S)
  | .bl _, .non, S => some (.bl true, S)
  | .int _, .non, S => some (.bl true, S)
  | .str _, .non, S => some (.bl true, S)
  | .tup _, .non, S => some (.bl true, S)
  | .obj _, .non, S => some (.bl true, S)
  | _, _, _ => none
theorem jop_isN : JOp X G (compareOp .Is) isND :=
  OpR.imp op_isN fun x y H Q ⟨m, S, a, b, d, S', sm, ra, rb, e, k⟩ => by
    cases b with
    | non =>
      cases rb
      refine ⟨rfl, ?_⟩
      cases a with
      | non => cases e; cases ra; exact k _ H m sm.refl sm rfl
      | bl _ => cases e; cases ra; exact k _ H m sm.refl sm rfl
      | int _ => cases e; cases ra; exact k _ H m sm.refl sm rfl
      | str _ => cases e; cases ra; exact k _ H m sm.refl sm rfl
      | tup _ => cases e; obtain ⟨p, vs, rfl, _⟩ := ra; exact k _ H m sm.refl sm rfl
      | obj _ => cases e; obtain ⟨p, rfl, _⟩ := ra; exact k _ H m sm.refl sm rfl
      | fl _ => cases e
    | _ => cases a <;> cases e
theorem jop_notN : JOp X G (compareOp .IsNot) notND :=
  OpR.imp op_notN fun x y H Q ⟨m, S, a, b, d, S', sm, ra, rb, e, k⟩ => by
    cases b with
    | non =>
      cases rb
      refine ⟨rfl, ?_⟩
      cases a with
      | non => cases e; cases ra; exact k _ H m sm.refl sm rfl
      | bl _ => cases e; cases ra; exact k _ H m sm.refl sm rfl
      | int _ => cases e; cases ra; exact k _ H m sm.refl sm rfl
      | str _ => cases e; cases ra; exact k _ H m sm.refl sm rfl
      | tup _ => cases e; obtain ⟨p, vs, rfl, _⟩ := ra; exact k _ H m sm.refl sm rfl
      | obj _ => cases e; obtain ⟨p, rfl, _⟩ := ra; exact k _ H m sm.refl sm rfl
      | fl _ => cases e
    | _ => cases a <;> cases e
theorem je_cmp {op : CmpOp} {g : D2} (ho : JOp X G (compareOp op) g) (ha : JE X G W a fa) (hb : JE X G W b fb) (hm : behindInMarks op b = false := by first | exact nomark _ | rfl) : JE X G W (.Compare a [op] [b] pos) (dOp g fa fb) :=
  PE.imp (pe_cmpR ho ha hb hm) fun σ H Q ⟨m, ρ, S, sr, sm, eo⟩ =>
    ⟨m, ρ, S, sr, sm, eo.then fun x S1 v H1 m1 st1 sm1 r1 eo1 => ⟨m1, ρ, S1, sr.mono sm st1, sm1, eo1.then fun y S2 u H2 m2 st2 sm2 r2 eo2 => by
      cases q : g x y S2 with
      | none => rw [q] at eo2; exact eo2.elim
      | some p =>
        obtain ⟨d, S3⟩ := p
        rw [q] at eo2
        exact ⟨m2, S2, x, y, d, S3, sm2, r1.mono sm1 st2, r2, q, eo2⟩⟩⟩
/-- a truth value as a test -/
def dB (fa : DE) : DT := fun ρ S => (fa ρ S).bind fun x S1 => match x with
  | .bl b => .ok b S1
  | _ => .bad
theorem jt_cmp {op : CmpOp} {g : D2} (ho : JOp X G (compareOp op) g) (ha : JE X G W a fa) (hb : JE X G W b fb) (hm : behindInMarks op b = false := by first | exact nomark _ | rfl) : JT X G W (.Compare a [op] [b] pos) (dB (dOp g fa fb)) :=
  PT.imp (pt_cmpR ho ha hb hm) fun σ H Q ⟨m, ρ, S, sr, sm, eo⟩ => by
    unfold dB dOp at eo
    refine ⟨m, ρ, S, sr, sm, ?_⟩
    cases e1 : fa ρ S with
    | bad => rw [e1] at eo; exact eo.elim
    | exn e S1 => rw [e1] at eo; exact eo
    | ok x S1 =>
      rw [e1] at eo
      simp only [Out.bind_ok] at eo
      intro v H1 m1 st1 sm1 r1
      refine ⟨m1, ρ, S1, sr.mono sm st1, sm1, ?_⟩
      have eo1 := eo.step st1
      cases e2 : fb ρ S1 with
      | bad => rw [e2] at eo; exact eo.elim
      | exn e S2 => rw [e2] at eo1; exact eo1
      | ok y S2 =>
        rw [e2] at eo1
        simp only [Out.bind_ok] at eo1
        intro u H2 m2 st2 sm2 r2
        cases q : g x y S2 with
        | none => rw [q] at eo1; exact eo1.elim
        | some p =>
          obtain ⟨d, S3⟩ := p
          rw [q] at eo1
          refine ⟨m2, S2, x, y, d, S3, sm2, r1.mono sm1 st2, r2, q, fun v H' m' st3 sm3 r3 => ?_⟩
          cases d with
          | bl b => cases r3; exact ⟨b, rfl, eo1 b H' m' (st2.trans st3) sm3 rfl⟩
          | _ => exact eo1.elim
theorem jt_val (ha : JE X G W a fa) (he : ∀ whole, isTrue a X.env whole = (do let v ← whole; standAt a.pos; holding [v] (truthy v)) := by intro _; rfl) : JT X G W a (dB fa) :=
  PT.imp (pt_val ha he) fun σ H Q ⟨m, ρ, S, sr, sm, eo⟩ => ⟨m, ρ, S, sr, sm, EO.then (rel := SV X.K) eo fun x S1 v H1 m1 st1 sm1 r1 eo1 => by
    cases x with
    | bl b => cases r1; exact ⟨b, rfl, eo1 b H1 m1 sm1.refl sm1 rfl⟩
    | _ => exact eo1.elim⟩
end
end DL
set_option Elab.async false
set_option linter.all false
set_option maxRecDepth 100000
set_option maxHeartbeats 4000000
namespace DL
open PySem PySem.Spec PyProof.Rows L2
theorem tuple_mul1 (l : Addr) (items : Array Value) (n : Nat) (dd : Option Addr) (sl : Array (Option Value)) (x : Int) (u : Tok) (c0 : (decide (x < -(2 ^ 63)) || decide (x ≥ 2 ^ 63)) = false) (c1 : (items.isEmpty || x == 1) = true) :
    Meets (Builtin.«tuple.__mul__» ⟨[.ref l, .int x u], []⟩) (fun _ R s => s.heap.get? l = some { cls := .type "tuple", dict := dd, data := .seq items n, slots := sl } ∧
      R (.ok (.ret (Value.ref l))) s) :=
  .of_wp fun prog w A R s h => by
    obtain ⟨hp, g, d, tk, os⟩ := s
    obtain ⟨hl, h⟩ := h
    have f1 := AutoSeq1.idx_int
    wp_walk using wpAny_loadPart' hl
    repeat (first
      | (refine wpAny_ite_false (decide_eq_false (by rw [c0]; exact Bool.false_ne_true)) ?_; wp_walk using wpAny_loadPart' hl)
      | (refine wpAny_ite_true (decide_eq_true c1) ?_; wp_walk using wpAny_loadPart' hl))
    exact ⟨_, rfl, h⟩
theorem tuple_mul0 (l : Addr) (items : Array Value) (n : Nat) (dd : Option Addr) (sl : Array (Option Value)) (x : Int) (u : Tok) (c0 : (decide (x < -(2 ^ 63)) || decide (x ≥ 2 ^ 63)) = false) (c1 : (items.isEmpty || x == 1) = false) (c2 : (decide (x ≤ 0) || items.isEmpty) = true) :
    Meets (Builtin.«tuple.__mul__» ⟨[.ref l, .int x u], []⟩) (fun _ R s => s.heap.get? l = some { cls := .type "tuple", dict := dd, data := .seq items n, slots := sl } ∧
      R (.ok (.ret (Value.ref s.heap.objs.size))) { s with heap := s.heap.push { cls := Value.type "tuple", data := Data.seq #[] }, toks := s.toks }) :=
  .of_wp fun prog w A R s h => by
    obtain ⟨hp, g, d, tk, os⟩ := s
    obtain ⟨hl, h⟩ := h
    have f1 := AutoSeq1.idx_int
    wp_walk using wpAny_loadPart' hl
    repeat (first
      | (refine wpAny_ite_false (decide_eq_false (by rw [c0]; exact Bool.false_ne_true)) ?_; wp_walk using wpAny_loadPart' hl)
      | (refine wpAny_ite_false (decide_eq_false (by rw [c1]; exact Bool.false_ne_true)) ?_; wp_walk using wpAny_loadPart' hl)
      | (refine wpAny_ite_true (decide_eq_true c2) ?_; wp_walk using wpAny_loadPart' hl))
    exact ⟨_, rfl, h⟩

def rRepA (K : PySem.W.Frag) : R2 := fun x y H Q => ∃ l k xs, x = .ref l ∧ y = .int k ∧ SqT K H l xs ∧ xs ≠ [] ∧ -1000 ≤ k ∧ k ≤ 1 ∧ (k = 1 → Q (.ref l) H) ∧ (k ≤ 0 → ∀ p, H p = none → Q (.ref p) (upd H p (.tup [])))
section
variable {X : Cx} {G : Gx} {W : WX}
theorem op_repA : OpR X (binaryOp .Mult) (rRepA X.K) := by
  intro pins s σ H x y v u Q I rx ry h
  obtain ⟨l, k, xs, rfl, rfl, hT, hne, h1, h2, q1, q0⟩ := h
  cases rx
  obtain ⟨t, rfl⟩ := ry
  obtain ⟨its, r, ⟨⟨cls, dd, data, sl⟩, ho, hc, n, hd⟩, hs⟩ := I.tuple hT
  simp only at hc hd
  subst hc hd
  have hle : its.length = xs.length := r.length.symm
  have hn : its ≠ [] := fun e => hne (by
    rw [e] at hle
    exact List.eq_nil_of_length_eq_zero hle.symm)
  have hi : its.toArray.isEmpty = false := by
    cases its with
    | nil => exact absurd rfl hn
    | cons a b => rfl
  have c0 : (decide (k < -(2 ^ 63)) || decide (k ≥ 2 ^ 63)) = false := by
    rw [decide_eq_false (by omega), decide_eq_false (by omega)] <;> rfl
  by_cases e1 : k = 1
  · have c1 : (its.toArray.isEmpty || k == 1) = true := by rw [e1]; simp
    refine wpAny_binaryOp_repeat_ref (T := "tuple") (U := "int") (by decide) ⟨_, ho, rfl⟩ (fun s' => typeIs_int s' k t) noFill_tuple_mul F.fills_int_mul F.slot_int_rmul repeat_tuple F.slot_int_index.lookup
      (call_meets F.slot_int_rmul (typeIs_int s k t) F.entry_int_rmul (F.args_int_rmul_2 _ _) (int_rmul_tuple k t l its.toArray n dd sl)
        ⟨ho, rfl, ⟨_, ho, rfl⟩, call_meets F.slot_tuple_mul ⟨_, ho, rfl⟩ F.entry_tuple_mul (F.args_tuple_mul_2 _ _) (tuple_mul1 l its.toArray n dd sl k t c0 c1) ⟨ho, ?_⟩⟩)
    exact ⟨.ref l, H, I, rfl, q1 e1⟩
  · have c1 : (its.toArray.isEmpty || k == 1) = false := by
      rw [hi, Bool.false_or]
      exact beq_eq_false_iff_ne.mpr e1
    have c2 : (decide (k ≤ 0) || its.toArray.isEmpty) = true := by
      rw [decide_eq_true (by omega), Bool.true_or]
    refine wpAny_binaryOp_repeat_ref (T := "tuple") (U := "int") (by decide) ⟨_, ho, rfl⟩ (fun s' => typeIs_int s' k t) noFill_tuple_mul F.fills_int_mul F.slot_int_rmul repeat_tuple F.slot_int_index.lookup
      (call_meets F.slot_int_rmul (typeIs_int s k t) F.entry_int_rmul (F.args_int_rmul_2 _ _) (int_rmul_tuple k t l its.toArray n dd sl)
        ⟨ho, rfl, ⟨_, ho, rfl⟩, call_meets F.slot_tuple_mul ⟨_, ho, rfl⟩ F.entry_tuple_mul (F.args_tuple_mul_2 _ _) (tuple_mul0 l its.toArray n dd sl k t c0 c1 c2) ⟨ho, ?_⟩⟩)
    refine ⟨.ref s.heap.objs.size, _, I.laid (t' := s.toks) (o := .tup []) (fun b ob q => Heap.get?_push_of_some _ q) (Nat.le_refl _) ?_, rfl, q0 (by omega) _ (I.hok.fresh (Nat.le_refl _))⟩
    exact ⟨Nat.zero_le _, [], .nil, IsTup.new _ _⟩
theorem rep_svs {K : PySem.W.Frag} {m : List Addr} {H : Hp} {ds : List D} {vs : List V} (h : SVs K m H ds vs) : ∀ n : Nat, SVs K m H (List.replicate n ds).flatten (List.replicate n vs).flatten
  | 0 => rfl
  | n + 1 => by
    rw [List.replicate_succ, List.replicate_succ, List.flatten_cons, List.flatten_cons]
    exact h.append (rep_svs h n)
theorem jop_mul : JOp X G (binaryOp .Mult) mulD := by
  refine OpR.imp (OpR.or (OpR.or op_mul op_mulW) (OpR.or op_repT op_repA)) fun x y H Q ⟨m, S, a, b, d, S', sm, ra, rb, e, k⟩ => ?_
  unfold mulD at e
  split at e
  · rename_i S i j
    split at e
    · rename_i hz
      cases e; cases ra; cases rb
      rcases hz with hz | hz
      · refine .inl (.inl ⟨i, j, rfl, rfl, ?_, k _ H m sm.refl sm rfl⟩)
        unfold CMul
        omega
      · exact .inl (.inr ⟨i, j, rfl, rfl, hz, k _ H m sm.refl sm rfl⟩)
    · cases e
  · rename_i S xs n
    split at e
    · rename_i hz
      cases e; cases rb
      obtain ⟨p, vs, rfl, q, r⟩ := ra
      have h1 := r.len
      have hne : vs ≠ [] := fun z => by
        rw [z] at h1
        exact hz.2.2.1 (List.length_eq_zero_iff.mp h1)
      by_cases h2 : 2 ≤ n
      · exact .inr (.inl ⟨p, n, vs, rfl, rfl, q, hne, h2, hz.1, by rw [← h1]; exact hz.2.1, fun p hp => k _ _ m (Step.beside sm hp) (sm.beside hp) (sv_tup (rep_svs r n.toNat) sm hp)⟩)
      · refine .inr (.inr ⟨p, n, vs, rfl, rfl, q, hne, hz.2.2.2, by omega, fun e => ?_, fun e p hp => ?_⟩)
        · subst e
          have z : (List.replicate (1 : Int).toNat xs).flatten = xs := by show (List.replicate 1 xs).flatten = xs; simp
          rw [z] at k
          exact k _ H m sm.refl sm ⟨p, vs, rfl, q, r⟩
        · have z : n.toNat = 0 := by omega
          rw [z] at k
          exact k _ _ m (Step.beside sm hp) (sm.beside hp) (sv_tup (ds := []) (vs := []) rfl sm hp)
    · cases e
  · cases e
end
end DL
set_option Elab.async false
set_option linter.all false
set_option maxRecDepth 100000
set_option maxHeartbeats 2000000
namespace DL
open PySem PySem.Spec PyProof.Rows L2
section
variable {X : Cx} {G : Gx} {W : WX} {a b c : Expr} {fa fb fc : DE} {ga gb gc : DT} {pos : Pos} {rest : List Expr}
/-! ### and, or, not, if -/
def dAndT (ga gb : DT) : DT := fun ρ S => (ga ρ S).bind fun x S1 => if x = true then gb ρ S1 else .ok false S1
def dOrT (ga gb : DT) : DT := fun ρ S => (ga ρ S).bind fun x S1 => if x = true then .ok true S1 else gb ρ S1
def dNotT (ga : DT) : DT := fun ρ S => (ga ρ S).bind fun x S1 => .ok (!x) S1
def dAndV (fa fb : DE) : DE := fun ρ S => (fa ρ S).bind fun x S1 => match x with
  | .bl true => fb ρ S1
  | .bl false => .ok (.bl false) S1
  | _ => .bad
def dOrV (fa fb : DE) : DE := fun ρ S => (fa ρ S).bind fun x S1 => match x with
  | .bl true => .ok (.bl true) S1
  | .bl false => fb ρ S1
  | _ => .bad
def dIf (g : DT) (fa fb : DE) : DE := fun ρ S => (g ρ S).bind fun x S1 => if x = true then fa ρ S1 else fb ρ S1
theorem jw_and1 (ha : JT X G W a ga) : JW X G W (.BoolOp .And [a] pos) ga := pw_and1 ha
theorem jw_or1 (ha : JT X G W a ga) : JW X G W (.BoolOp .Or [a] pos) ga := pw_or1 ha
theorem jw_and (ha : JT X G W a ga) (hb : JW X G W (.BoolOp .And (b :: rest) pos) gb) : JW X G W (.BoolOp .And (a :: b :: rest) pos) (dAndT ga gb) :=
  PW.imp (pw_and ha hb) fun σ H Q ⟨m, ρ, S, sr, sm, eo⟩ => ⟨m, ρ, S, sr, sm, EO.then (rel := eqR) eo fun x S1 v H1 m1 st1 sm1 r1 eo1 => by
    cases r1
    cases x with
    | true => exact ⟨m1, ρ, S1, sr.mono sm st1, sm1, eo1⟩
    | false => exact eo1 false H1 m1 sm1.refl sm1 rfl⟩
theorem jw_or (ha : JT X G W a ga) (hb : JW X G W (.BoolOp .Or (b :: rest) pos) gb) : JW X G W (.BoolOp .Or (a :: b :: rest) pos) (dOrT ga gb) :=
  PW.imp (pw_or ha hb) fun σ H Q ⟨m, ρ, S, sr, sm, eo⟩ => ⟨m, ρ, S, sr, sm, EO.then (rel := eqR) eo fun x S1 v H1 m1 st1 sm1 r1 eo1 => by
    cases r1
    cases x with
    | false => exact ⟨m1, ρ, S1, sr.mono sm st1, sm1, eo1⟩
    | true => exact eo1 true H1 m1 sm1.refl sm1 rfl⟩
theorem jt_of {e : Expr} {g : DT} (h : JW X G W e g) : JT X G W e g := PW.pt h
theorem jt_not (ha : JT X G W a ga) : JT X G W (.UnaryOp .Not a pos) (dNotT ga) :=
  PT.imp (pt_not ha) fun σ H Q ⟨m, ρ, S, sr, sm, eo⟩ => ⟨m, ρ, S, sr, sm, EO.then (rel := eqR) eo fun x S1 v H1 m1 st1 sm1 r1 eo1 => by
    cases r1
    exact eo1 _ H1 m1 sm1.refl sm1 rfl⟩
theorem je_one {op} (h : JE X G W a fa) : JE X G W (.BoolOp op [a] pos) fa := pe_one h
theorem je_and (ha : JE X G W a fa) (hb : JE X G W (.BoolOp .And (b :: rest) pos) fb) : JE X G W (.BoolOp .And (a :: b :: rest) pos) (dAndV fa fb) :=
  PE.imp (pe_and ha hb) fun σ H Q ⟨m, ρ, S, sr, sm, eo⟩ => ⟨m, ρ, S, sr, sm, EO.then (rel := SV X.K) eo fun x S1 v H1 m1 st1 sm1 r1 eo1 => by
    cases x with
    | bl x =>
      cases r1
      cases x with
      | true => exact ⟨true, rfl, ⟨m1, ρ, S1, sr.mono sm st1, sm1, eo1⟩⟩
      | false => exact ⟨false, rfl, eo1 _ H1 m1 sm1.refl sm1 rfl⟩
    | _ => exact eo1.elim⟩
theorem je_or (ha : JE X G W a fa) (hb : JE X G W (.BoolOp .Or (b :: rest) pos) fb) : JE X G W (.BoolOp .Or (a :: b :: rest) pos) (dOrV fa fb) :=
  PE.imp (pe_or ha hb) fun σ H Q ⟨m, ρ, S, sr, sm, eo⟩ => ⟨m, ρ, S, sr, sm, EO.then (rel := SV X.K) eo fun x S1 v H1 m1 st1 sm1 r1 eo1 => by
    cases x with
    | bl x =>
      cases r1
      cases x with
      | false => exact ⟨false, rfl, ⟨m1, ρ, S1, sr.mono sm st1, sm1, eo1⟩⟩
      | true => exact ⟨true, rfl, eo1 _ H1 m1 sm1.refl sm1 rfl⟩
    | _ => exact eo1.elim⟩
theorem je_if {c : Expr} {g : DT} (hc : JT X G W c g) (ha : JE X G W a fa) (hb : JE X G W b fb) : JE X G W (.IfExp c a b pos) (dIf g fa fb) :=
  PE.imp (pe_ifExp hc ha hb) fun σ H Q ⟨m, ρ, S, sr, sm, eo⟩ => ⟨m, ρ, S, sr, sm, EO.then (rel := eqR) eo fun x S1 v H1 m1 st1 sm1 r1 eo1 => by
    cases r1
    cases x with
    | true => exact ⟨m1, ρ, S1, sr.mono sm st1, sm1, eo1⟩
    | false => exact ⟨m1, ρ, S1, sr.mono sm st1, sm1, eo1⟩⟩
/-! ### chains -/
def dChain (g g' : D2) (fa fb fc : DE) : DE := fun ρ S => (fa ρ S).bind fun x S1 => (fb ρ S1).bind fun y S2 => (optO (g x y S2)).bind fun r S3 => match r with
  | .bl true => (fc ρ S3).bind fun z S4 => optO (g' y z S4)
  | .bl false => .ok (.bl false) S3
  | _ => .bad
theorem chain_core {g g' : D2} {σ : L2.St} {H : Hp} {Q : VK} (h : tD X.K G W (dChain g g' fa fb fc) σ H Q) : tChain (OR X.K G g) (OR X.K G g') (tD X.K G W fa) (tD X.K G W fb) (tD X.K G W fc) σ H Q := by
  obtain ⟨m, ρ, S, sr, sm, eo⟩ := h
  refine ⟨m, ρ, S, sr, sm, EO.then (rel := SV X.K) eo fun x S1 v H1 m1 st1 sm1 r1 eo1 => ?_⟩
  refine ⟨m1, ρ, S1, sr.mono sm st1, sm1, EO.then (rel := SV X.K) eo1 fun y S2 u H2 m2 st2 sm2 r2 eo2 => ?_⟩
  cases q : g x y S2 with
  | none => rw [q] at eo2; exact eo2.elim
  | some p =>
    obtain ⟨d, S3⟩ := p
    rw [q] at eo2
    simp only [optO_some, Out.bind_ok] at eo2
    refine ⟨m2, S2, x, y, d, S3, sm2, r1.mono sm1 st2, r2, q, fun w H3 m3 st3 sm3 r3 => ?_⟩
    have eo3 := eo2.step st3
    cases d with
    | bl k =>
      cases r3
      refine ⟨k, rfl, ?_⟩
      cases k with
      | false => exact eo3 _ H3 m3 sm3.refl sm3 rfl
      | true =>
        refine ⟨m3, ρ, S3, (sr.mono sm (st1.trans (st2.trans st3))), sm3, EO.then (rel := SV X.K) eo3 fun z S4 w H4 m4 st4 sm4 r4 eo4 => ?_⟩
        cases q2 : g' y z S4 with
        | none => rw [q2] at eo4; exact eo4.elim
        | some p =>
          obtain ⟨d, S5⟩ := p
          rw [q2] at eo4
          exact ⟨m4, S4, y, z, d, S5, sm4, r2.mono sm2 (st3.trans st4), r4, q2, eo4⟩
    | _ => exact eo3.elim
theorem je_chain {op op' : CmpOp} {g g' : D2} (ho : JOp X G (compareOp op) g) (ho' : JOp X G (compareOp op') g') (ha : JE X G W a fa) (hb : JE X G W b fb) (hc : JE X G W c fc)
    (hm : lastMarks [op, op'] [b, c] = false := by with_unfolding_all rfl) : JE X G W (.Compare a [op, op'] [b, c] pos) (dChain g g' fa fb fc) :=
  PE.imp (pe_chain ho ho' ha hb hc hm) fun σ H Q h => chain_core h
theorem tD_test {f : DE} {σ : L2.St} {H : Hp} {Q : Bool → Hp → Prop} (h : tDT X.K G W (dB f) σ H Q) : tD X.K G W f σ H (fun x H' => ∃ k, x = .bl k ∧ Q k H') := by
  obtain ⟨m, ρ, S, sr, sm, eo⟩ := h
  refine ⟨m, ρ, S, sr, sm, EO.then (rel := SV X.K) eo fun x S1 v H1 m1 st1 sm1 r1 eo1 => ?_⟩
  cases x with
  | bl b => cases r1; exact ⟨b, rfl, eo1 b H1 m1 sm1.refl sm1 rfl⟩
  | _ => exact eo1.elim
theorem jt_chain {op op' : CmpOp} {g g' : D2} (ho : JOp X G (compareOp op) g) (ho' : JOp X G (compareOp op') g') (ha : JE X G W a fa) (hb : JE X G W b fb) (hc : JE X G W c fc)
    (hm : lastMarks [op, op'] [b, c] = false := by with_unfolding_all rfl) : JT X G W (.Compare a [op, op'] [b, c] pos) (dB (dChain g g' fa fb fc)) :=
  PT.imp (pt_chain ho ho' ha hb hc hm) fun σ H Q h => chain_core (tD_test h)
/-! ### arguments, displays -/
def daNil : DA := fun _ S => .ok [] S
def daCons (fa : DE) (fr : DA) : DA := fun ρ S => (fa ρ S).bind fun x S1 => (fr ρ S1).bind fun xs S2 => .ok (x :: xs) S2
variable {e : Expr} {es : List Expr} {fr : DA} {x1 : Nat}
theorem ja_nil : JA X G W [] daNil := PA.imp pa_nil fun σ H Q ⟨m, ρ, S, sr, sm, eo⟩ => eo [] H m sm.refl sm rfl
theorem ja_cons (ha : JE X G W e fa) (hr : JA X G W es fr) (hs : starEach (e :: es) X.env = (false, eval e X.env) :: starEach es X.env := by rfl) : JA X G W (e :: es) (daCons fa fr) :=
  PA.imp (pa_cons ha hr hs) fun σ H Q ⟨m, ρ, S, sr, sm, eo⟩ => ⟨m, ρ, S, sr, sm, EO.then (rel := SV X.K) eo fun x S1 v H1 m1 st1 sm1 r1 eo1 =>
    ⟨m1, ρ, S1, sr.mono sm st1, sm1, EO.then (rel := SVs X.K) eo1 fun y S2 u H2 m2 st2 sm2 r2 eo2 => eo2 (v :: u) H2 m2 sm2.refl sm2 ⟨v, u, rfl, r1.mono sm1 st2, r2⟩⟩⟩
def dTup (fr : DA) : DE := fun ρ S => (fr ρ S).bind fun xs S1 => if xs.length ≤ 1000000 then .ok (.tup xs) S1 else .bad
def dLst (fr : DA) : DE := fun ρ S => (fr ρ S).bind fun xs S1 => if xs.length ≤ 1000000 then .ok (.obj S1.length) (S1 ++ [.lst xs]) else .bad
theorem je_tup (h : JA X G W es fr) : JE X G W (.Tuple es x1 pos) (dTup fr) :=
  PE.imp (pe_tup h) fun σ H Q ⟨m, ρ, S, sr, sm, eo⟩ => ⟨m, ρ, S, sr, sm, EO.then (rel := SVs X.K) eo fun xs S1 vs H1 m1 st1 sm1 r1 eo1 => by
    split at eo1
    · rename_i hz
      exact ⟨by rw [← r1.len]; exact size6 hz, fun p hp => eo1 _ _ m1 (Step.beside sm1 hp) (sm1.beside hp) (sv_tup r1 sm1 hp)⟩
    · exact eo1.elim⟩
theorem je_lst (h : JA X G W es fr) : JE X G W (.List es pos) (dLst fr) :=
  PE.imp (pe_lst h) fun σ H Q ⟨m, ρ, S, sr, sm, eo⟩ => ⟨m, ρ, S, sr, sm, EO.then (rel := SVs X.K) eo fun xs S1 vs H1 m1 st1 sm1 r1 eo1 => by
    split at eo1
    · rename_i hz
      exact ⟨by rw [← r1.len]; exact size6 hz, fun p hp => eo1 _ _ (m1 ++ [p]) (Step.new sm1 hp) (sim_lst r1 sm1 hp) (sv_new sm1)⟩
    · exact eo1.elim⟩
/-! ### a[i] -/
def ixD : D2 := fun x i S => match seqAt S x, i with
  | some xs, .int k => (atI xs k).map fun d => (d, S)
  | _, _ => none
theorem atI_svs {K : PySem.W.Frag} {m : List Addr} {H : Hp} {xs : List D} {vs : List V} (h : SVs K m H xs vs) {k : Int} {d : D} (e : atI xs k = some d) : ∃ v, atI vs k = some v ∧ SV K m H d v := by
  unfold atI at e ⊢
  rw [← h.len]
  cases q : ixN xs.length k with
  | none => rw [q] at e; cases e
  | some j =>
    rw [q] at e
    exact h.get (show xs[j]? = some d from e)
theorem ix_any : IxR X (fun x y H Q => ∃ p xs i v, x = .ref p ∧ y = .int i ∧ (SqL X.K H p xs ∨ SqT X.K H p xs) ∧ atI xs i = some v ∧ Q v H) := by
  intro value slice pins s σ H x y v u Q I rx ry h hs
  obtain ⟨p, xs, i, z, e1, e2, hq, he, q⟩ := h
  rcases hq with hq | hq
  · exact ix_list value slice pins s σ H x y v u Q I rx ry ⟨p, xs, i, z, e1, e2, hq, he, q⟩ hs
  · exact ix_tup value slice pins s σ H x y v u Q I rx ry ⟨p, xs, i, z, e1, e2, hq, he, q⟩ hs
theorem je_ix (ha : JE X G W a fa) (hb : JE X G W b fb) (hs : PlainIx b := by exact (fun _ _ => rfl)) : JE X G W (.Subscript a b pos) (dOp ixD fa fb) :=
  PE.imp (pe_ix ix_any ha hb hs) fun σ H Q ⟨m, ρ, S, sr, sm, eo⟩ =>
    ⟨m, ρ, S, sr, sm, eo.then fun x S1 v H1 m1 st1 sm1 r1 eo1 => ⟨m1, ρ, S1, sr.mono sm st1, sm1, eo1.then fun y S2 u H2 m2 st2 sm2 r2 eo2 => by
      unfold ixD at eo2
      split at eo2
      · rename_i xs k e1
        obtain ⟨p, vs, rfl, sv, sq⟩ := seqAt_ok sm2 e1 (r1.mono sm1 st2)
        cases r2
        cases q : atI xs k with
        | none => rw [q] at eo2; exact eo2.elim
        | some d =>
          rw [q] at eo2
          obtain ⟨w, h1, h2⟩ := atI_svs sv q
          exact ⟨p, vs, k, w, rfl, rfl, sq, h1, eo2 _ H2 m2 sm2.refl sm2 h2⟩
      · exact eo2.elim⟩⟩
/-! ### a[lo:hi] -/
abbrev DP := DEnv → Store → Out (Option Int)
def dpNone : DP := fun _ S => .ok none S
def dpSome (f : DE) : DP := fun ρ S => (f ρ S).bind fun x S1 => match x with
  | .int i => .ok (some i) S1
  | _ => .bad
def tDP (K : PySem.W.Frag) (G : Gx) (W : WX) (f : DP) : TO := fun σ H Q => ∃ m ρ S, SR K m H ρ σ ∧ Sim K G m S H ∧ EO K G eqR Q (fun c d H' => W c d σ H') m H (f ρ S)
abbrev JP (X : Cx) (G : Gx) (W : WX) (e : Option Expr) (f : DP) : Prop := PO X e (tDP X.K G W f)
theorem PO.imp {e : Option Expr} {t t' : TO} (h : PO X e t) (f : ∀ σ H Q, t' σ H Q → t σ H Q) : PO X e t' := ⟨fun pins s σ H Q I q => h.run pins s σ H Q I (f σ H Q q)⟩
theorem jp_none : JP X G W none dpNone := PO.imp po_none fun σ H Q ⟨m, ρ, S, sr, sm, eo⟩ => eo none H m sm.refl sm rfl
theorem jp_some (h : JE X G W e fa) : JP X G W (some e) (dpSome fa) := PO.imp (po_some h) fun σ H Q ⟨m, ρ, S, sr, sm, eo⟩ => ⟨m, ρ, S, sr, sm, EO.then (rel := SV X.K) eo fun x S1 v H1 m1 st1 sm1 r1 eo1 => by
  cases x with
  | int i => cases r1; exact ⟨i, rfl, eo1 _ H1 m1 sm1.refl sm1 rfl⟩
  | _ => exact eo1.elim⟩
def cutD {α : Type} (xs : List α) (lo hi : Option Int) : List α := (xs.drop (HT.sIx xs.length 0 lo)).take (HT.sIx xs.length xs.length hi - HT.sIx xs.length 0 lo)
theorem cut_svs {K : PySem.W.Frag} {m : List Addr} {H : Hp} {xs : List D} {vs : List V} (h : SVs K m H xs vs) (lo hi : Option Int) : SVs K m H (cutD xs lo hi) (cutV vs lo hi) := by
  unfold cutD cutV
  rw [h.len]
  exact (h.drop _).take _
/-- a slice of a list (a new list), of a tuple, of a text -/
def sliceD (x : D) (lo hi : Option Int) (S : Store) : Option (D × Store) := match x with
  | .obj n => (lstAt S n).map fun xs => newO (.lst (cutD xs lo hi)) S
  | .fl xs => some (newO (.lst (cutD xs lo hi)) S)
  | .tup xs => some (.tup (cutD xs lo hi), S)
  | .str z => if z.length ≤ 1000000 then some (.str (cutS z lo hi), S) else none
  | _ => none
def dSl (fa : DE) (fl fh : DP) : DE := fun ρ S => (fa ρ S).bind fun x S1 => (fl ρ S1).bind fun l S2 => (fh ρ S2).bind fun h S3 => optO (sliceD x l h S3)
theorem sl_any : SlR X (fun x lo hi H Q => rSlL X.K x lo hi H Q ∨ rSlA X.K x lo hi H Q ∨ (∃ z, x = .str z ∧ z.length ≤ sizeLine ∧ Q (.str (cutS z lo hi)) H)) := by
  intro pins s σ H x v vl vu lo hi sl Q I rx hs pl pu h
  rcases h with h | h | h
  · exact sl_list pins s σ H x v vl vu lo hi sl Q I rx hs pl pu h
  · exact sl_tupA pins s σ H x v vl vu lo hi sl Q I rx hs pl pu h
  · exact sl_str pins s σ H x v vl vu lo hi sl Q I rx hs pl pu h
theorem je_slice {lo hi : Option Expr} {fl fh : DP} {p2 : Pos} (he : JE X G W e fa) (hl : JP X G W lo fl) (hu : JP X G W hi fh) : JE X G W (.Subscript e (.Slice lo hi none p2) pos) (dSl fa fl fh) :=
  PE.imp (pe_slice sl_any he hl hu) fun σ H Q ⟨m, ρ, S, sr, sm, eo⟩ => ⟨m, ρ, S, sr, sm, EO.then (rel := SV X.K) eo fun x S1 v H1 m1 st1 sm1 r1 eo1 =>
    ⟨m1, ρ, S1, sr.mono sm st1, sm1, EO.then (rel := eqR) eo1 fun l S2 l' H2 m2 st2 sm2 r2 eo2 => ⟨m2, ρ, S2, sr.mono sm (st1.trans st2), sm2, EO.then (rel := eqR) eo2 fun h S3 h' H3 m3 st3 sm3 r3 eo3 => by
      cases r2; cases r3
      have r1 := r1.mono sm1 (st2.trans st3)
      cases x with
      | obj n =>
        unfold sliceD at eo3
        dsimp only at eo3
        cases q : lstAt S3 n with
        | none => rw [q] at eo3; exact eo3.elim
        | some xs =>
          rw [q] at eo3
          obtain ⟨a, rfl, hm⟩ := r1
          obtain ⟨a', vs, h1, h2, h3⟩ := lstAt_ok sm3 q
          rw [hm] at h1; cases h1
          exact .inl ⟨a, vs, rfl, SqL.of h2, fun p hp => eo3 _ _ (m3 ++ [p]) (Step.new sm3 hp) (sim_lst (cut_svs h3 l h) sm3 hp) (sv_new sm3)⟩
      | fl xs =>
        obtain ⟨a, vs, rfl, hq, hs⟩ := r1
        exact .inl ⟨a, vs, rfl, hq.l, fun p hp => eo3 _ _ (m3 ++ [p]) (Step.new sm3 hp) (sim_lst (cut_svs hs l h) sm3 hp) (sv_new sm3)⟩
      | tup xs =>
        obtain ⟨a, vs, rfl, hq, hs⟩ := r1
        refine .inr (.inl ⟨a, vs, rfl, hq, fun hh => ?_, fun _ p hp => eo3 _ _ m3 (Step.beside sm3 hp) (sm3.beside hp) (sv_tup (cut_svs hs l h) sm3 hp)⟩)
        have e : cutD xs l h = xs := by
          unfold cutD
          rw [hs.len, hh.1, hh.2, List.drop_zero, Nat.sub_zero, ← hs.len, List.take_length]
        have eo4 : EO X.K G (SV X.K) Q (fun c d H' => W c d σ H') m3 H3 (.ok (.tup (cutD xs l h)) S3) := eo3
        rw [e] at eo4
        exact eo4 _ H3 m3 sm3.refl sm3 ⟨a, vs, rfl, hq, hs⟩
      | str z =>
        cases r1
        unfold sliceD at eo3
        dsimp only at eo3
        split at eo3
        · rename_i hz
          exact .inr (.inr ⟨z, rfl, size6 hz, eo3 _ H3 m3 sm3.refl sm3 rfl⟩)
        · exact eo3.elim
      | _ => exact eo3.elim⟩⟩⟩
/-! ### o.f -/
def insAt (S : Store) : D → Option (String × List (Str × D))
  | .obj n => match S[n]? with
    | some (.ins c fs) => some (c, fs)
    | _ => none
  | _ => none
theorem insAt_ok {K : PySem.W.Frag} {m : List Addr} {S : Store} {H : Hp} (s : Sim K G m S H) {d : D} {v : V} {c : String} {fs : List (Str × D)} (h : insAt S d = some (c, fs)) (r : SV K m H d v) :
    ∃ n p dx vfs, d = .obj n ∧ v = .ref p ∧ m[n]? = some p ∧ H p = some (.ins (G.cA c) dx vfs) ∧ SF K m H fs vfs := by
  cases d with
  | obj n =>
    unfold insAt at h
    dsimp only at h
    split at h
    · rename_i c' fs' e
      cases h
      obtain ⟨a, e1, hm⟩ := r
      obtain ⟨dx, vfs, h1, h2⟩ := s.at_ n _ a e hm
      exact ⟨n, a, dx, vfs, rfl, e1, hm, h1, h2⟩
    · cases h
  | _ => cases h
def dFld (cs : List String) (f : Str) (fa : DE) : DE := fun ρ S => (fa ρ S).bind fun x S1 => match insAt S1 x with
  | some (c, fs) => if c ∈ cs then (match fs.lookup f with
    | some d => .ok d S1
    | none => .bad) else .bad
  | none => .bad
theorem je_fld {cs : List String} {f : Str} (hC : ∀ c ∈ cs, Cls X.K (G.cA c) ∧ NoAttr X.K (G.cA c) f) (he : JE X G W e fa) (hb : attributeBase e f X.env (eval e X.env) = eval e X.env := by rfl) : JE X G W (.Attribute e f pos) (dFld cs f fa) :=
  PE.imp (pe_fld he hb) fun σ H Q ⟨m, ρ, S, sr, sm, eo⟩ => ⟨m, ρ, S, sr, sm, EO.then (rel := SV X.K) eo fun x S1 v H1 m1 st1 sm1 r1 eo1 => by
    split at eo1
    · rename_i c fs e1
      split at eo1
      · rename_i hc
        split at eo1
        · rename_i d e2
          obtain ⟨n, p, dx, vfs, rfl, rfl, hm, ho, hf⟩ := insAt_ok sm1 e1 r1
          obtain ⟨w, h1, h2⟩ := hf.look e2
          exact ⟨p, G.cA c, dx, vfs, w, rfl, ho, (hC c hc).1, (hC c hc).2, h1, eo1 _ H1 m1 sm1.refl sm1 h2⟩
        · exact eo1.elim
      · exact eo1.elim
    · exact eo1.elim⟩
end
end DL
set_option Elab.async false
set_option linter.all false
set_option maxRecDepth 100000
set_option maxHeartbeats 2000000
namespace DL
open PySem PySem.Spec PyProof.Rows L2
/-! ### calls where what is raised is wished for at the caller's slots -/
section
variable {X : Cx} {CX : CXT} {k : Nat} {f C : Addr} {fd : FuncData} {ps : List Str} {sp : Sp} {E : L2.St → XK} {x m : Str} {p pos apos : Pos} {e o : Expr} {es : List Expr} {ta : TE} {t : TA}
theorem pe_callS0 (F : FnOk X.prog X.w X.K X.mg X.base CX k f fd ps sp) (hr : Room k X.A) (hg : Gl X x) (hm : X.mg x = some (.ref f)) (hk : PySem.W.keepIn X.K (.ref f) = true) (hb : Binds X.K fd ps []) (hx : ∀ σ, PassesAt CX X σ (E σ))
    (hdb : (x == ("__debug__" : Str)) = false := by decide) : PE X (.Call (.Name x p) [] [] pos) (fun σ H Q => sp [] H Q (E σ)) := by
  refine ⟨fun pins s σ H Q I h => ?_⟩
  refine wpAny_Call_Name_kw (ld_glob I hg hm ?_ hdb)
  exact PySem.W.callWith_K0 I.kIn hk (run_fnS (us := []) F hr hb (hx σ) I .nil h)
def tMethS (C : Addr) (m : Str) (sp : Sp) (E : L2.St → XK) (ta : TE) (t : TA) : TE := fun σ H Q => ta σ H fun x H1 => ∃ a dx fs, x = .ref a ∧ H1 a = some (.ins C dx fs) ∧ fs.lookup m = none ∧
  t σ H1 fun vs H2 => sp (x :: vs) H2 Q (E σ)
theorem pe_methS {pl : Sem Bool} (he : PE X o ta) (c : Cls X.K C) (hm : Meth X.K C m f) (F : FnOk X.prog X.w X.K X.mg X.base CX k f fd ps sp) (hr : Room k X.A) (hb : Binds X.K fd ps []) (hx : ∀ σ, PassesAt CX X σ (E σ)) (ha : PA X (e :: es) t)
    (hst : starEach (e :: es) X.env = (false, eval e X.env) :: starEach es X.env := by rfl) (hpl : (backTo pos (starEach es X.env)).any (·.1) = false := by rfl)
    (ht : eval (.Call (.Attribute o m apos) (e :: es) [] pos) X.env = (do
      let ov ← eval o X.env
      standAt apos.atName
      let (f, first) ← holding [ov] (getMethod ov m pl)
      callWith pos f first (backTo pos (starEach (e :: es) X.env)) (backToKw pos (keywordEach [] X.env))) := by rfl) :
    PE X (.Call (.Attribute o m apos) (e :: es) [] pos) (tMethS C m sp E ta t) := by
  refine ⟨fun pins s σ H Q I h => ?_⟩
  refine PySem.W.methodCall_KW (pl := pl) (thn (he.run pins s σ H _ I h) fun u s1 ⟨x, H1, I1, rx, a, dx, fs, ex, ea, l, q⟩ => ?_) ht
  subst ex
  obtain rfl : u = Value.ref a := rx
  refine getmeth_ok I1 ea c hm l ?_
  refine PySem.W.callWith_K (first := [.ref a]) (h₀ := X.base) I.ok.mod.kin hm.kp (thn (ha.run pos pins s1 σ H1 _ I1 q) fun us s2 ⟨vs, H2, I2, r, q2⟩ => ⟨I2.kIn, ?_⟩) hst hpl
  exact run_fnS (us := .ref a :: us) (vs := .ref a :: vs) F hr hb (hx σ) I2 (.cons rfl r) q2
theorem pe_methS0 {pl : Sem Bool} (he : PE X o ta) (c : Cls X.K C) (hm : Meth X.K C m f) (F : FnOk X.prog X.w X.K X.mg X.base CX k f fd ps sp) (hr : Room k X.A) (hb : Binds X.K fd ps []) (hx : ∀ σ, PassesAt CX X σ (E σ))
    (ht : eval (.Call (.Attribute o m apos) [] [] pos) X.env = (do
      let ov ← eval o X.env
      standAt apos.atName
      let (f, first) ← holding [ov] (getMethod ov m pl)
      callWith pos f first (backTo pos (starEach [] X.env)) (backToKw pos (keywordEach [] X.env))) := by rfl) :
    PE X (.Call (.Attribute o m apos) [] [] pos) (tMethS C m sp E ta tNil) := by
  refine ⟨fun pins s σ H Q I h => ?_⟩
  refine PySem.W.methodCall_KW (pl := pl) (thn (he.run pins s σ H _ I h) fun u s1 ⟨x, H1, I1, rx, a, dx, fs, ex, ea, l, q⟩ => ?_) ht
  subst ex
  obtain rfl : u = Value.ref a := rx
  refine getmeth_ok I1 ea c hm l ?_
  exact PySem.W.callWith_K0 (first := [.ref a]) I1.kIn hm.kp (run_fnS (us := [.ref a]) (vs := [.ref a]) F hr hb (hx σ) I1 (.cons rfl .nil) q)
theorem run_makeS {pins : List (Addr × Obj)} {σ : L2.St} {H : Hp} {s : Shared} {Q : VK} {us : List Value} {vs : List V} (M : Mk X.K C f) (F : FnOk X.prog X.w X.K X.mg X.base CX k f fd ps sp) (hr : Room (k + 1) X.A) (hb : Binds X.K fd ps [])
    (hx : PassesAt CX X σ (E σ)) (I : Inv X pins σ H s) (r : Vals vs us)
    (h : ∀ x dx, H x = none → H dx = none → dx ≠ x → sp (.ref x :: vs) (upd (upd H dx (.own x)) x (.ins C dx [])) (fun v H2 => v = .non ∧ Q (.ref x) H2) (E σ)) :
    wpAny (model X.prog X.w) X.A (call (.ref C) us) (EP X pins σ Q) X.xe s := by
  have hq := h (s.heap.objs.size + 1) s.heap.objs.size (I.hok.fresh (Nat.le_succ _)) (I.hok.fresh (Nat.le_refl _)) (Nat.ne_of_lt (Nat.lt_succ_self _))
  have I2 := Inv.made (C := C) I
  have r2 : Vals (V.ref (s.heap.objs.size + 1) :: vs) (Value.ref (s.heap.objs.size + 1) :: us) := .cons rfl r
  have hl : (Value.ref (s.heap.objs.size + 1) :: us ++ []).length = ps.length := by
    have e := r2.length
    rw [F.len _ _ _ _ hq] at e
    rw [List.append_nil]
    exact e.symm
  have b := hb ⟨_, _, _, _, _⟩ (Value.ref (s.heap.objs.size + 1) :: us) I2.kIn hl
  rw [List.append_nil] at b
  refine wpAny_call (make_map (f := f) I.kIn M.makes M.init (beq_iff_eq.mp M.fn) (codeAny_mono (F.run _ X.stack _ _ ⟨Value.ref (s.heap.objs.size + 1) :: us, []⟩ (Value.ref (s.heap.objs.size + 1) :: us) _ _ (E σ) (hr.make C us [])
    (I2.env0.make C us []) b r2 hq) fun r s' hq' => ?_))
  cases r with
  | error e => exact hx pins _ _ e s' I2 hq'
  | ok fl =>
    cases fl with
    | ret u =>
      obtain ⟨v, H', I3, rv, ev, q3⟩ := I2.after hq'
      subst ev
      exact ⟨rv, ⟨V.ref (s.heap.objs.size + 1), H', I3, rfl, q3⟩⟩
    | next => exact False.elim hq'
    | brk => exact False.elim hq'
    | cont => exact False.elim hq'
def tMakeS (C : Addr) (sp : Sp) (E : L2.St → XK) (t : TA) : TE := fun σ H Q => t σ H fun vs H1 => ∀ x dx, H1 x = none → H1 dx = none → dx ≠ x →
  sp (.ref x :: vs) (upd (upd H1 dx (.own x)) x (.ins C dx [])) (fun v H2 => v = .non ∧ Q (.ref x) H2) (E σ)
theorem pe_makeS (M : Mk X.K C f) (F : FnOk X.prog X.w X.K X.mg X.base CX k f fd ps sp) (hr : Room (k + 1) X.A) (hg : Gl X x) (hm : X.mg x = some (.ref C)) (hb : Binds X.K fd ps []) (hx : ∀ σ, PassesAt CX X σ (E σ))
    (ha : PA X (e :: es) t) (hdb : (x == ("__debug__" : Str)) = false := by decide) (he : starEach (e :: es) X.env = (false, eval e X.env) :: starEach es X.env := by rfl) (hpl : (backTo pos (starEach es X.env)).any (·.1) = false := by rfl) :
    PE X (.Call (.Name x p) (e :: es) [] pos) (tMakeS C sp E t) := by
  refine ⟨fun pins s σ H Q I h => ?_⟩
  refine wpAny_Call_Name_kw (ld_glob I hg hm ?_ hdb)
  refine PySem.W.callWith_K (h₀ := X.base) I.ok.mod.kin M.kp (thn (ha.run pos pins s σ H _ I h) fun us s1 ⟨vs, H1, I1, r, q⟩ => ⟨I1.kIn, ?_⟩) he hpl
  exact run_makeS M F hr hb (hx σ) I1 r q
theorem pe_makeS0 (M : Mk X.K C f) (F : FnOk X.prog X.w X.K X.mg X.base CX k f fd ps sp) (hr : Room (k + 1) X.A) (hg : Gl X x) (hm : X.mg x = some (.ref C)) (hb : Binds X.K fd ps []) (hx : ∀ σ, PassesAt CX X σ (E σ))
    (hdb : (x == ("__debug__" : Str)) = false := by decide) : PE X (.Call (.Name x p) [] [] pos) (tMakeS C sp E tNil) := by
  refine ⟨fun pins s σ H Q I h => ?_⟩
  refine wpAny_Call_Name_kw (ld_glob I hg hm ?_ hdb)
  exact PySem.W.callWith_K0 I.kIn M.kp (run_makeS (us := []) M F hr hb (hx σ) I .nil h)
end
/-! ### a def that denotes a function -/
abbrev DF := List D → Store → Out D
def spD (K : PySem.W.Frag) (G : Gx) (n : Nat) (F : DF) : Sp := fun vs H Q E => ∃ m ds S, ds.length = n ∧ SVs K m H ds vs ∧ Sim K G m S H ∧ EO K G (SV K) Q E m H (F ds S)
/-- the def at f, of n parameters, denotes F (level k) -/
structure FnD (P : Program) (w : World) (K : PySem.W.Frag) (mg : Str → Option Value) (base : Heap) (G : Gx) (k : Nat) (f : Addr) (n : Nat) (F : DF) : Prop where
  ex : ∃ fd ps, FnOk P w K mg base (L2.CX P w) k f fd ps (spD K G n F) ∧ Binds K fd ps []
  kp : PySem.W.keepIn K (.ref f) = true
/-- F refines F' : where F is not bad they agree -/
def Refines (F F' : DF) : Prop := ∀ ds S, F ds S = .bad ∨ F ds S = F' ds S
theorem FnD.refine {P : Program} {w : World} {K : PySem.W.Frag} {mg : Str → Option Value} {base : Heap} {G : Gx} {k : Nat} {f : Addr} {n : Nat} {F F' : DF} (h : FnD P w K mg base G k f n F') (r : ∀ ds S, ds.length = n → F ds S = .bad ∨ F' ds S = F ds S) : FnD P w K mg base G k f n F := by
  obtain ⟨⟨fd, ps, ok, b⟩, kp⟩ := h
  refine ⟨⟨fd, ps, ok.imp fun vs H Q E ⟨m, ds, S, hl, sv, sm, eo⟩ => ⟨m, ds, S, hl, sv, sm, ?_⟩, b⟩, kp⟩
  rcases r ds S hl with e | e
  · rw [e] at eo; exact eo.elim
  · rw [e]; exact eo
theorem FnD.mono {P : Program} {w : World} {K : PySem.W.Frag} {mg : Str → Option Value} {base : Heap} {G : Gx} {j k : Nat} {f : Addr} {n : Nat} {F : DF} (h : FnD P w K mg base G j f n F) (hk : j ≤ k) : FnD P w K mg base G k f n F := by
  obtain ⟨⟨fd, ps, ok, b⟩, kp⟩ := h
  exact ⟨⟨fd, ps, ok.mono hk, b⟩, kp⟩
def dCall (n : Nat) (F : DF) (fr : DA) : DE := fun ρ S => (fr ρ S).bind fun ds S1 => if ds.length = n then F ds S1 else .bad
def dMeth (c : String) (mt : Str) (n : Nat) (F : DF) (fo : DE) (fr : DA) : DE := fun ρ S => (fo ρ S).bind fun x S1 => match insAt S1 x with
  | some (c', fs) => if c' = c ∧ fs.lookup mt = none then (fr ρ S1).bind fun ds S2 => if ds.length + 1 = n then F (x :: ds) S2 else .bad else .bad
  | none => .bad
def dMake (c : String) (n : Nat) (F : DF) (fr : DA) : DE := fun ρ S => (fr ρ S).bind fun ds S1 => if ds.length + 1 = n then (F (.obj S1.length :: ds) (S1 ++ [.ins c []])).bind fun r S2 => (match r with
  | .non => .ok (.obj S1.length) S2
  | _ => .bad) else .bad
section
variable {X : Cx} {G : Gx} {W : WX} {k n : Nat} {f : Addr} {F : DF} {x mt : Str} {c : String} {p pos apos : Pos} {e o : Expr} {es : List Expr} {fo : DE} {fr : DA}
theorem je_call (h : FnD X.prog X.w X.K X.mg X.base G k f n F) (tk : Takes X W) (hr : Room k X.A) (hm : X.mg x = some (.ref f)) (ha : JA X G W (e :: es) fr) (hg : Gl X x := by rfl) (hdb : (x == ("__debug__" : Str)) = false := by decide)
    (he : starEach (e :: es) X.env = (false, eval e X.env) :: starEach es X.env := by rfl) (hpl : (backTo pos (starEach es X.env)).any (·.1) = false := by rfl) : JE X G W (.Call (.Name x p) (e :: es) [] pos) (dCall n F fr) := by
  obtain ⟨⟨fd, ps, ok, b⟩, kp⟩ := h
  refine PE.imp (pe_callS ok hr hg hm kp b (fun σ => passAt tk σ) ha hdb he hpl) fun σ H Q ⟨m, ρ, S, sr, sm, eo⟩ => ⟨m, ρ, S, sr, sm, EO.then (rel := SVs X.K) eo fun ds S1 vs H1 m1 st1 sm1 r1 eo1 => ?_⟩
  split at eo1
  · rename_i hl
    exact ⟨m1, ds, S1, hl, r1, sm1, eo1⟩
  · exact eo1.elim
theorem je_call0 (h : FnD X.prog X.w X.K X.mg X.base G k f n F) (tk : Takes X W) (hr : Room k X.A) (hm : X.mg x = some (.ref f)) (hg : Gl X x := by rfl) (hdb : (x == ("__debug__" : Str)) = false := by decide) : JE X G W (.Call (.Name x p) [] [] pos) (dCall n F daNil) := by
  obtain ⟨⟨fd, ps, ok, b⟩, kp⟩ := h
  refine PE.imp (pe_callS0 ok hr hg hm kp b (fun σ => passAt tk σ) hdb) fun σ H Q ⟨m, ρ, S, sr, sm, eo⟩ => ?_
  have eo1 : EO X.K G (SV X.K) Q (fun c d H' => W c d σ H') m H (if ([] : List D).length = n then F [] S else .bad) := eo
  split at eo1
  · rename_i hl
    exact ⟨m, [], S, hl, rfl, sm, eo1⟩
  · exact eo1.elim
theorem je_meth {pl : Sem Bool} (h : FnD X.prog X.w X.K X.mg X.base G k f n F) (tk : Takes X W) (hr : Room k X.A) (hc : Cls X.K (G.cA c)) (hm : Meth X.K (G.cA c) mt f) (ho : JE X G W o fo) (ha : JA X G W (e :: es) fr)
    (hst : starEach (e :: es) X.env = (false, eval e X.env) :: starEach es X.env := by rfl) (hpl : (backTo pos (starEach es X.env)).any (·.1) = false := by rfl)
    (ht : eval (.Call (.Attribute o mt apos) (e :: es) [] pos) X.env = (do
      let ov ← eval o X.env
      standAt apos.atName
      let (f, first) ← holding [ov] (getMethod ov mt pl)
      callWith pos f first (backTo pos (starEach (e :: es) X.env)) (backToKw pos (keywordEach [] X.env))) := by rfl) : JE X G W (.Call (.Attribute o mt apos) (e :: es) [] pos) (dMeth c mt n F fo fr) := by
  obtain ⟨⟨fd, ps, ok, b⟩, kp⟩ := h
  refine PE.imp (pe_methS ho hc hm ok hr b (fun σ => passAt tk σ) ha hst hpl ht) fun σ H Q ⟨m, ρ, S, sr, sm, eo⟩ => ⟨m, ρ, S, sr, sm, EO.then (rel := SV X.K) eo fun x S1 v H1 m1 st1 sm1 r1 eo1 => ?_⟩
  split at eo1
  · rename_i c' fs e1
    split at eo1
    · rename_i hcc
      obtain ⟨rfl, hl⟩ := hcc
      obtain ⟨j, q, dx, vfs, rfl, rfl, hmm, hoo, hf⟩ := insAt_ok sm1 e1 r1
      refine ⟨q, dx, vfs, rfl, hoo, hf.lookN hl, m1, ρ, S1, sr.mono sm st1, sm1, EO.then (rel := SVs X.K) eo1 fun ds S2 vs H2 m2 st2 sm2 r2 eo2 => ?_⟩
      split at eo2
      · rename_i hl2
        exact ⟨m2, .obj j :: ds, S2, by simpa using hl2, ⟨_, _, rfl, r1.mono sm1 st2, r2⟩, sm2, eo2⟩
      · exact eo2.elim
    · exact eo1.elim
  · exact eo1.elim
theorem je_meth0 {pl : Sem Bool} (h : FnD X.prog X.w X.K X.mg X.base G k f n F) (tk : Takes X W) (hr : Room k X.A) (hc : Cls X.K (G.cA c)) (hm : Meth X.K (G.cA c) mt f) (ho : JE X G W o fo)
    (ht : eval (.Call (.Attribute o mt apos) [] [] pos) X.env = (do
      let ov ← eval o X.env
      standAt apos.atName
      let (f, first) ← holding [ov] (getMethod ov mt pl)
      callWith pos f first (backTo pos (starEach [] X.env)) (backToKw pos (keywordEach [] X.env))) := by rfl) : JE X G W (.Call (.Attribute o mt apos) [] [] pos) (dMeth c mt n F fo daNil) := by
  obtain ⟨⟨fd, ps, ok, b⟩, kp⟩ := h
  refine PE.imp (pe_methS0 ho hc hm ok hr b (fun σ => passAt tk σ) ht) fun σ H Q ⟨m, ρ, S, sr, sm, eo⟩ => ⟨m, ρ, S, sr, sm, EO.then (rel := SV X.K) eo fun x S1 v H1 m1 st1 sm1 r1 eo1 => ?_⟩
  split at eo1
  · rename_i c' fs e1
    split at eo1
    · rename_i hcc
      obtain ⟨rfl, hl⟩ := hcc
      obtain ⟨j, q, dx, vfs, rfl, rfl, hmm, hoo, hf⟩ := insAt_ok sm1 e1 r1
      refine ⟨q, dx, vfs, rfl, hoo, hf.lookN hl, ?_⟩
      have eo2 : EO X.K G (SV X.K) Q (fun c d H' => W c d σ H') m1 H1 (if ([] : List D).length + 1 = n then F (.obj j :: []) S1 else .bad) := eo1
      split at eo2
      · rename_i hl2
        exact ⟨m1, [.obj j], S1, by simpa using hl2, ⟨_, _, rfl, r1, rfl⟩, sm1, eo2⟩
      · exact eo2.elim
    · exact eo1.elim
  · exact eo1.elim
/-- a new instance stands in the store -/
theorem made_step {K : PySem.W.Frag} {m : List Addr} {S : Store} {H : Hp} (sm : Sim K G m S H) {y dx : Addr} (hy : H y = none) (hd : H dx = none) (ne : dx ≠ y) :
    Step m H (m ++ [y]) (upd (upd H dx (.own y)) y (.ins (G.cA c) dx [])) ∧ Sim K G (m ++ [y]) (S ++ [.ins c []]) (upd (upd H dx (.own y)) y (.ins (G.cA c) dx [])) := by
  have st1 : Step m H m (upd H dx (.own y)) := Step.beside sm hd
  have sm1 : Sim K G m S (upd H dx (.own y)) := sm.beside hd
  have hy1 : upd H dx (.own y) y = none := by rw [upd_ne (Ne.symm ne)]; exact hy
  exact ⟨st1.trans (Step.new sm1 hy1), sm1.new hy1 ⟨dx, [], upd_same, rfl⟩⟩
theorem make_core {σ : L2.St} {Q : VK} {m : List Addr} {S : Store} {H : Hp} {ds : List D} {vs : List V} (sm : Sim X.K G m S H) (r : SVs X.K m H ds vs)
    (eo : EO X.K G (SV X.K) Q (fun c d H' => W c d σ H') m H (if ds.length + 1 = n then (F (.obj S.length :: ds) (S ++ [.ins c []])).bind fun r S2 => (match r with
      | .non => .ok (.obj S.length) S2
      | _ => .bad) else .bad)) : ∀ y dx, H y = none → H dx = none → dx ≠ y → spD X.K G n F (.ref y :: vs) (upd (upd H dx (.own y)) y (.ins (G.cA c) dx [])) (fun v H2 => v = .non ∧ Q (.ref y) H2) (WE W σ) := by
  intro y dx hy hd ne
  split at eo
  · rename_i hl
    obtain ⟨st1, sm1⟩ := made_step (c := c) sm hy hd ne
    refine ⟨m ++ [y], .obj S.length :: ds, S ++ [.ins c []], by simpa using hl, ⟨_, _, rfl, sv_new sm, r.mono sm st1⟩, sm1, EO.then (rel := SV X.K) (eo.step st1) fun d S2 v H2 m2 st2 sm2 r2 eo2 => ?_⟩
    cases d with
    | non =>
      cases r2
      refine ⟨rfl, eo2 _ H2 m2 sm2.refl sm2 ⟨y, rfl, st2.get ?_⟩⟩
      rw [← sm.len]; simp
    | _ => exact eo2.elim
  · exact eo.elim
theorem je_make (h : FnD X.prog X.w X.K X.mg X.base G k f n F) (M : Mk X.K (G.cA c) f) (tk : Takes X W) (hr : Room (k + 1) X.A) (hm : X.mg x = some (.ref (G.cA c))) (ha : JA X G W (e :: es) fr) (hg : Gl X x := by rfl) (hdb : (x == ("__debug__" : Str)) = false := by decide)
    (he : starEach (e :: es) X.env = (false, eval e X.env) :: starEach es X.env := by rfl) (hpl : (backTo pos (starEach es X.env)).any (·.1) = false := by rfl) : JE X G W (.Call (.Name x p) (e :: es) [] pos) (dMake c n F fr) := by
  obtain ⟨⟨fd, ps, ok, b⟩, kp⟩ := h
  exact PE.imp (pe_makeS M ok hr hg hm b (fun σ => passAt tk σ) ha hdb he hpl) fun σ H Q ⟨m, ρ, S, sr, sm, eo⟩ => ⟨m, ρ, S, sr, sm, EO.then (rel := SVs X.K) eo fun ds S1 vs H1 m1 st1 sm1 r1 eo1 => make_core sm1 r1 eo1⟩
theorem je_make0 (h : FnD X.prog X.w X.K X.mg X.base G k f n F) (M : Mk X.K (G.cA c) f) (tk : Takes X W) (hr : Room (k + 1) X.A) (hm : X.mg x = some (.ref (G.cA c))) (hg : Gl X x := by rfl) (hdb : (x == ("__debug__" : Str)) = false := by decide) : JE X G W (.Call (.Name x p) [] [] pos) (dMake c n F daNil) := by
  obtain ⟨⟨fd, ps, ok, b⟩, kp⟩ := h
  exact PE.imp (pe_makeS0 M ok hr hg hm b (fun σ => passAt tk σ) hdb) fun σ H Q ⟨m, ρ, S, sr, sm, eo⟩ => make_core (ds := []) (vs := []) sm rfl eo
end
/-! ### built-ins -/
abbrev DB := List D → Store → Option (D × Store)
def dBlt (g : DB) (fr : DA) : DE := fun ρ S => (fr ρ S).bind fun ds S1 => optO (g ds S1)
def BR (K : PySem.W.Frag) (G : Gx) (g : DB) : List V → Hp → VK → Prop := fun vs H Q => ∃ m S ds d S', Sim K G m S H ∧ SVs K m H ds vs ∧ g ds S = some (d, S') ∧ ∀ v H' m', Step m H m' H' → Sim K G m' S' H' → SV K m' H' d v → Q v H'
section
variable {X : Cx} {G : Gx} {W : WX} {g : DB} {x : Str} {id T : String} {p pos : Pos} {e : Expr} {es : List Expr} {fr : DA}
theorem blt_core {σ : L2.St} {H : Hp} {Q : VK} (h : tD X.K G W (dBlt g fr) σ H Q) : tDA X.K G W fr σ H (fun vs H1 => BR X.K G g vs H1 Q) := by
  obtain ⟨m, ρ, S, sr, sm, eo⟩ := h
  refine ⟨m, ρ, S, sr, sm, EO.then (rel := SVs X.K) eo fun ds S1 vs H1 m1 st1 sm1 r1 eo1 => ?_⟩
  cases q : g ds S1 with
  | none => rw [q] at eo1; exact eo1.elim
  | some z =>
    obtain ⟨d, S2⟩ := z
    rw [q] at eo1
    exact ⟨m1, S1, ds, d, S2, sm1, r1, q, eo1⟩
theorem je_blt (hc : CallR X (.builtin id) (BR X.K G g)) (hm : X.mg x = none) (hv : bootBuiltins x = some (.builtin id)) (ha : JA X G W (e :: es) fr) (hg : Gl X x := by rfl) (hn : x ≠ "__name__" := by decide) (hdb : (x == ("__debug__" : Str)) = false := by decide)
    (he : starEach (e :: es) X.env = (false, eval e X.env) :: starEach es X.env := by rfl) (hpl : (backTo pos (starEach es X.env)).any (·.1) = false := by rfl) : JE X G W (.Call (.Name x p) (e :: es) [] pos) (dBlt g fr) :=
  PE.imp (pe_callB hc hg hm hv ha hn hdb he hpl) fun σ H Q h => blt_core h
theorem je_bty (hc : CallR X (.type T) (BR X.K G g)) (hm : X.mg x = none) (hv : bootBuiltins x = some (.type T)) (ha : JA X G W (e :: es) fr) (hg : Gl X x := by rfl) (hn : x ≠ "__name__" := by decide) (hdb : (x == ("__debug__" : Str)) = false := by decide)
    (he : starEach (e :: es) X.env = (false, eval e X.env) :: starEach es X.env := by rfl) (hpl : (backTo pos (starEach es X.env)).any (·.1) = false := by rfl) : JE X G W (.Call (.Name x p) (e :: es) [] pos) (dBlt g fr) :=
  PE.imp (pe_callTy hc hg hm hv ha hn hdb he hpl) fun σ H Q h => blt_core h
def absD : DB
  | [.int i], S => some (.int (if i < 0 then -i else i), S)
  | _, _ => none
def maxD : DB
  | [.int i, .int j], S => some (.int (if j > i then j else i), S)
  | _, _ => none
def minD : DB
  | [.int i, .int j], S => some (.int (if j < i then j else i), S)
  | _, _ => none
def intD : DB
  | [.int i], S => some (.int i, S)
  | [.bl b], S => some (.int (if b = true then 1 else 0), S)
  | _, _ => none
def lenD : DB := fun ds S => match ds with
  | [.str z] => if z.length ≤ 1000000 then some (.int z.length, S) else none
  | [d] => (seqAt S d).map fun xs => (.int xs.length, S)
  | _ => none
def tupleD : DB := fun ds S => match ds with
  | [d] => (seqAt S d).map fun xs => (.tup xs, S)
  | _ => none
def listD : DB := fun ds S => match ds with
  | [d] => (seqAt S d).map fun xs => newO (.lst xs) S
  | _ => none
theorem svs1 {K : PySem.W.Frag} {m : List Addr} {H : Hp} {d : D} {vs : List V} (h : SVs K m H [d] vs) : ∃ v, vs = [v] ∧ SV K m H d v := by
  obtain ⟨v, r, rfl, a, b⟩ := h
  rw [show r = [] from b]
  exact ⟨v, rfl, a⟩
theorem svs2 {K : PySem.W.Frag} {m : List Addr} {H : Hp} {d e : D} {vs : List V} (h : SVs K m H [d, e] vs) : ∃ v u, vs = [v, u] ∧ SV K m H d v ∧ SV K m H e u := by
  obtain ⟨v, r, rfl, a, b⟩ := h
  obtain ⟨u, rfl, q⟩ := svs1 b
  exact ⟨v, u, rfl, a, q⟩
theorem jb_abs : CallR X (.builtin "abs") (BR X.K G absD) := CallR.imp call_abs fun vs H Q ⟨m, S, ds, d, S', sm, r, e, k⟩ => by
  unfold absD at e
  split at e
  · cases e
    obtain ⟨v, rfl, q⟩ := svs1 r
    cases q
    exact ⟨_, rfl, k _ H m sm.refl sm rfl⟩
  · cases e
theorem jb_max (hc : X.calm = true) : CallR X (.builtin "max") (BR X.K G maxD) := CallR.imp (call_max2 hc) fun vs H Q ⟨m, S, ds, d, S', sm, r, e, k⟩ => by
  unfold maxD at e
  split at e
  · cases e
    obtain ⟨v, u, rfl, q, q'⟩ := svs2 r
    cases q; cases q'
    exact ⟨_, _, rfl, k _ H m sm.refl sm rfl⟩
  · cases e
theorem jb_min (hc : X.calm = true) : CallR X (.builtin "min") (BR X.K G minD) := CallR.imp (call_min2 hc) fun vs H Q ⟨m, S, ds, d, S', sm, r, e, k⟩ => by
  unfold minD at e
  split at e
  · cases e
    obtain ⟨v, u, rfl, q, q'⟩ := svs2 r
    cases q; cases q'
    exact ⟨_, _, rfl, k _ H m sm.refl sm rfl⟩
  · cases e
theorem jb_int : CallR X (.type "int") (BR X.K G intD) := CallR.imp call_int1 fun vs H Q ⟨m, S, ds, d, S', sm, r, e, k⟩ => by
  unfold intD at e
  split at e
  · cases e
    obtain ⟨v, rfl, q⟩ := svs1 r
    cases q
    exact .inl ⟨_, rfl, k _ H m sm.refl sm rfl⟩
  · cases e
    obtain ⟨v, rfl, q⟩ := svs1 r
    cases q
    exact .inr ⟨_, rfl, k _ H m sm.refl sm rfl⟩
  · cases e
theorem jb_len : CallR X (.builtin "len") (BR X.K G lenD) := CallR.imp call_len fun vs H Q ⟨m, S, ds, d, S', sm, r, e, k⟩ => by
  unfold lenD at e
  split at e
  · rename_i z
    split at e
    · rename_i hz
      cases e
      obtain ⟨v, rfl, q⟩ := svs1 r
      cases q
      exact ⟨_, _, rfl, ⟨size6 hz, rfl⟩, k _ H m sm.refl sm rfl⟩
    · cases e
  · rename_i d' _
    obtain ⟨v, rfl, q⟩ := svs1 r
    cases z : seqAt S d' with
    | none => rw [z] at e; cases e
    | some xs =>
      rw [z] at e
      cases e
      obtain ⟨p, ws, rfl, sv, sq⟩ := seqAt_ok sm z q
      refine ⟨_, ws.length, rfl, ?_, ?_⟩
      · rcases sq with sq | sq
        · exact .inl ⟨ws, sq, rfl⟩
        · exact .inr ⟨ws, sq, rfl⟩
      · rw [← sv.len]
        exact k _ H m sm.refl sm rfl
  · cases e
theorem jb_tuple : CallR X (.type "tuple") (BR X.K G tupleD) := CallR.imp call_tuple_of fun vs H Q ⟨m, S, ds, d, S', sm, r, e, k⟩ => by
  unfold tupleD at e
  split at e
  · rename_i d'
    obtain ⟨v, rfl, q⟩ := svs1 r
    cases z : seqAt S d' with
    | none => rw [z] at e; cases e
    | some xs =>
      rw [z] at e
      cases e
      obtain ⟨p, ws, rfl, sv, sq⟩ := seqAt_ok sm z q
      refine ⟨p, ws, rfl, ?_⟩
      rcases sq with sq | sq
      · exact .inl ⟨sq, fun l hl => k _ _ m (Step.beside sm hl) (sm.beside hl) (sv_tup sv sm hl)⟩
      · exact .inr ⟨sq, k _ H m sm.refl sm ⟨p, ws, rfl, sq, sv⟩⟩
  · cases e
theorem jb_list : CallR X (.type "list") (BR X.K G listD) := CallR.imp call_list_of fun vs H Q ⟨m, S, ds, d, S', sm, r, e, k⟩ => by
  unfold listD at e
  split at e
  · rename_i d'
    obtain ⟨v, rfl, q⟩ := svs1 r
    cases z : seqAt S d' with
    | none => rw [z] at e; cases e
    | some xs =>
      rw [z] at e
      cases e
      obtain ⟨p, ws, rfl, sv, sq⟩ := seqAt_ok sm z q
      exact ⟨p, ws, rfl, sq, fun l hl => k _ _ (m ++ [l]) (Step.new sm hl) (sim_lst sv sm hl) (sv_new sm)⟩
  · cases e
end
end DL
set_option Elab.async false
set_option linter.all false
set_option maxRecDepth 100000
set_option maxHeartbeats 2000000
namespace DL
open PySem PySem.Spec PyProof.Rows L2
/-! ### statements -/
inductive OutS where
  | nx (ρ : DEnv) (S : Store) | rt (d : D) (S : Store) | bk (ρ : DEnv) (S : Store) | ct (ρ : DEnv) (S : Store) | exn (e : Exc) (ρ : DEnv) (S : Store) | bad
abbrev DS := DEnv → Store → OutS
def SQ (K : PySem.W.Frag) (G : Gx) (W : WX) (E : Ends) (m : List Addr) (H : Hp) : OutS → Prop
  | .nx ρ S => ∀ σ H' m', Step m H m' H' → Sim K G m' S H' → SR K m' H' ρ σ → E.nx σ H'
  | .rt d S => ∀ v H' m', Step m H m' H' → Sim K G m' S H' → SV K m' H' d v → E.rt v H'
  | .bk ρ S => ∀ σ H' m', Step m H m' H' → Sim K G m' S H' → SR K m' H' ρ σ → E.bk σ H'
  | .ct ρ S => ∀ σ H' m', Step m H m' H' → Sim K G m' S H' → SR K m' H' ρ σ → E.ct σ H'
  | .exn e ρ S => ∀ cls dx σ H' m', Step m H m' H' → Sim K G m' S H' → SR K m' H' ρ σ → XO G e cls dx → W cls dx σ H'
  | .bad => False
def tDS (K : PySem.W.Frag) (G : Gx) (W : WX) (f : DS) : TS := fun E σ H => ∃ m ρ S, SR K m H ρ σ ∧ Sim K G m S H ∧ SQ K G W E m H (f ρ S)
abbrev JS (X : Cx) (G : Gx) (W : WX) (st : Stmt) (f : DS) : Prop := PS X st (tDS X.K G W f)
abbrev JSs (X : Cx) (G : Gx) (W : WX) (st : List Stmt) (f : DS) : Prop := PSs X st (tDS X.K G W f)
theorem PS.imp {X : Cx} {st : Stmt} {t t' : TS} (h : PS X st t) (f : ∀ E σ H, t' E σ H → t E σ H) : PS X st t' := ⟨fun pins s σ H E I q => h.run pins s σ H E I (f E σ H q)⟩
theorem PSs.imp {X : Cx} {st : List Stmt} {t t' : TS} (h : PSs X st t) (f : ∀ E σ H, t' E σ H → t E σ H) : PSs X st t' := ⟨fun pins s σ H E I q => h.run pins s σ H E I (f E σ H q)⟩
section
variable {K : PySem.W.Frag} {G : Gx} {W : WX} {E E' : Ends} {m m1 : List Addr} {H H1 : Hp}
theorem SQ.step {o : OutS} (h : SQ K G W E m H o) (st : Step m H m1 H1) : SQ K G W E m1 H1 o := by
  cases o with
  | nx ρ S => exact fun σ H' m' a b c => h σ H' m' (st.trans a) b c
  | rt d S => exact fun σ H' m' a b c => h σ H' m' (st.trans a) b c
  | bk ρ S => exact fun σ H' m' a b c => h σ H' m' (st.trans a) b c
  | ct ρ S => exact fun σ H' m' a b c => h σ H' m' (st.trans a) b c
  | exn e ρ S => exact fun cls dx σ H' m' a b c d => h cls dx σ H' m' (st.trans a) b c d
  | bad => exact h.elim
def liftS {α : Type} (o : Out α) (ρ : DEnv) (k : α → Store → OutS) : OutS := match o with
  | .ok a S => k a S
  | .exn e S => .exn e ρ S
  | .bad => .bad
@[simp] theorem liftS_ok {α : Type} (a : α) (S : Store) (ρ : DEnv) (k : α → Store → OutS) : liftS (.ok a S) ρ k = k a S := rfl
@[simp] theorem liftS_exn {α : Type} (e : Exc) (S : Store) (ρ : DEnv) (k : α → Store → OutS) : liftS (.exn e S) ρ k = .exn e ρ S := rfl
@[simp] theorem liftS_bad {α : Type} (ρ : DEnv) (k : α → Store → OutS) : liftS .bad ρ k = .bad := rfl
theorem SQ.then {α β : Type} {rel : List Addr → Hp → α → β → Prop} {Q : β → Hp → Prop} {o : Out α} {ρ : DEnv} {σ : L2.St} {S : Store} {k : α → Store → OutS} (h : SQ K G W E m H (liftS o ρ k)) (sr : SR K m H ρ σ) (sm : Sim K G m S H)
    (f : ∀ a S1 b H1 m1, Step m H m1 H1 → Sim K G m1 S1 H1 → rel m1 H1 a b → SQ K G W E m1 H1 (k a S1) → Q b H1) : EO K G rel Q (fun c d H' => W c d σ H') m H o := by
  cases o with
  | ok a S => exact fun b H' m' s1 s2 r => f a S b H' m' s1 s2 r (SQ.step h s1)
  | exn e S1 => exact fun cls dx H' m' s1 s2 x => h cls dx σ H' m' s1 s2 (sr.mono sm s1) x
  | bad => exact h.elim
end
section
variable {X : Cx} {G : Gx} {W : WX} {st : Stmt} {rest : List Stmt} {f g : DS} {e : Expr} {fe : DE} {pos : Pos}
def dNext : DS := fun ρ S => .nx ρ S
def dSeq (f g : DS) : DS := fun ρ S => match f ρ S with
  | .nx ρ1 S1 => g ρ1 S1
  | o => o
theorem jss_nil : JSs X G W [] dNext := PSs.imp pss_nil fun E σ H ⟨m, ρ, S, sr, sm, q⟩ => q σ H m sm.refl sm sr
theorem jss_one (h : JS X G W st f) : JSs X G W [st] f := pss_one h
theorem jss_cons (h1 : JS X G W st f) (h2 : JSs X G W rest g) : JSs X G W (st :: rest) (dSeq f g) :=
  PSs.imp (pss_cons h1 h2) fun E σ H ⟨m, ρ, S, sr, sm, q⟩ => ⟨m, ρ, S, sr, sm, by
    unfold dSeq at q
    cases e : f ρ S with
    | nx ρ1 S1 => rw [e] at q; exact fun σ' H' m' a b c => ⟨m', ρ1, S1, c, b, SQ.step q a⟩
    | rt d S1 => rw [e] at q; exact q
    | bk ρ1 S1 => rw [e] at q; exact q
    | ct ρ1 S1 => rw [e] at q; exact q
    | exn x ρ1 S1 => rw [e] at q; exact q
    | bad => rw [e] at q; exact q⟩
theorem js_pass : JS X G W (.Pass pos) dNext := PS.imp ps_pass fun E σ H ⟨m, ρ, S, sr, sm, q⟩ => q σ H m sm.refl sm sr
def dBrk : DS := fun ρ S => .bk ρ S
def dCnt : DS := fun ρ S => .ct ρ S
theorem js_break : JS X G W (.Break pos) dBrk := PS.imp ps_break fun E σ H ⟨m, ρ, S, sr, sm, q⟩ => q σ H m sm.refl sm sr
theorem js_continue : JS X G W (.Continue pos) dCnt := PS.imp ps_continue fun E σ H ⟨m, ρ, S, sr, sm, q⟩ => q σ H m sm.refl sm sr
def dDrop (fe : DE) : DS := fun ρ S => liftS (fe ρ S) ρ fun _ S1 => .nx ρ S1
theorem js_expr (he : JE X G W e fe) (hs : swapsWith e none pos.line X.env = pure false := by rfl) : JS X G W (.Expr e pos) (dDrop fe) :=
  PS.imp (ps_expr he hs) fun E σ H ⟨m, ρ, S, sr, sm, q⟩ => ⟨m, ρ, S, sr, sm, SQ.then (rel := SV X.K) q sr sm fun a S1 b H1 m1 st1 sm1 r1 q1 => q1 σ H1 m1 sm1.refl sm1 (sr.mono sm st1)⟩
def dRet (fe : DE) : DS := fun ρ S => liftS (fe ρ S) ρ fun d S1 => .rt d S1
theorem js_ret (he : JE X G W e fe) : JS X G W (.Return (some e) pos) (dRet fe) :=
  PS.imp (ps_ret he) fun E σ H ⟨m, ρ, S, sr, sm, q⟩ => ⟨m, ρ, S, sr, sm, SQ.then (rel := SV X.K) q sr sm fun a S1 b H1 m1 st1 sm1 r1 q1 => q1 b H1 m1 sm1.refl sm1 r1⟩
theorem js_retN : JS X G W (.Return none pos) (fun _ S => .rt .non S) := PS.imp ps_retN fun E σ H ⟨m, ρ, S, sr, sm, q⟩ => q .non H m sm.refl sm rfl
def dIfS (c : DT) (f g : DS) : DS := fun ρ S => liftS (c ρ S) ρ fun b S1 => if b = true then f ρ S1 else g ρ S1
theorem js_if {c : Expr} {a b : List Stmt} {dc : DT} (hc : JT X G W c dc) (ha : JSs X G W a f) (hb : JSs X G W b g) : JS X G W (.If c a b pos) (dIfS dc f g) :=
  PS.imp (ps_if hc ha hb) fun E σ H ⟨m, ρ, S, sr, sm, q⟩ => ⟨m, ρ, S, sr, sm, SQ.then (rel := eqR) q sr sm fun a S1 b H1 m1 st1 sm1 r1 q1 => by
    cases r1
    cases a with
    | true => exact ⟨m1, ρ, S1, sr.mono sm st1, sm1, q1⟩
    | false => exact ⟨m1, ρ, S1, sr.mono sm st1, sm1, q1⟩⟩
/-! ### targets -/
abbrev DG := D → DEnv → Store → OutS
abbrev DGs := List D → DEnv → Store → OutS
def noEnds (Q : L2.St → Hp → Prop) : Ends := { nx := Q, rt := fun _ _ => False }
def tDG (K : PySem.W.Frag) (G : Gx) (W : WX) (f : DG) : TG := fun v σ H Q => ∃ m ρ S d, SR K m H ρ σ ∧ Sim K G m S H ∧ SV K m H d v ∧ SQ K G W (noEnds Q) m H (f d ρ S)
def tDGs (K : PySem.W.Frag) (G : Gx) (W : WX) (f : DGs) : TGs := fun vs σ H Q => ∃ m ρ S ds, SR K m H ρ σ ∧ Sim K G m S H ∧ SVs K m H ds vs ∧ SQ K G W (noEnds Q) m H (f ds ρ S)
abbrev JG (X : Cx) (G : Gx) (W : WX) (tg : Expr) (f : DG) : Prop := PG X tg (tDG X.K G W f)
abbrev JGs (X : Cx) (G : Gx) (W : WX) (tg : List Expr) (f : DGs) : Prop := PGs X tg (tDGs X.K G W f)
theorem PG.imp {tg : Expr} {t t' : TG} (h : PG X tg t) (f : ∀ v σ H Q, t' v σ H Q → t v σ H Q) : PG X tg t' := ⟨fun pins s σ H v u Q I r q => h.run pins s σ H v u Q I r (f v σ H Q q)⟩
theorem PG.or {tg : Expr} {t t' : TG} (h : PG X tg t) (h' : PG X tg t') : PG X tg (fun v σ H Q => t v σ H Q ∨ t' v σ H Q) := ⟨fun pins s σ H v u Q I r q => q.elim (h.run pins s σ H v u Q I r) (h'.run pins s σ H v u Q I r)⟩
theorem PGs.imp {tg : List Expr} {t t' : TGs} (h : PGs X tg t) (f : ∀ v σ H Q, t' v σ H Q → t v σ H Q) : PGs X tg t' := ⟨fun pins s σ H v u Q I r q => h.run pins s σ H v u Q I r (f v σ H Q q)⟩
def gN (i : Nat) : DG := fun d ρ S => .nx (ρ.set i (some d)) S
theorem jg_name (i : Nat) {x : Str} (hN : X.N.Nodup) (hi : X.N[i]? = some x := by rfl) (hx : Loc X.env.scope x := by first | exact Or.inl rfl | exact Or.inr rfl) (hf : X.fn x = true ∨ X.env.scope.names.lookup x = some .local := by first | exact .inl rfl | exact .inr rfl) : JG X G W (.Name x pos) (gN i) :=
  PG.imp (pg_name hN hi hx hf) fun v σ H Q ⟨m, ρ, S, d, sr, sm, r, q⟩ => q _ H m sm.refl sm (sr.set i r)
def gsNil : DGs
  | [], ρ, S => .nx ρ S
  | _, _, _ => .bad
def gsCons (g : DG) (gs : DGs) : DGs
  | d :: ds, ρ, S => (match g d ρ S with
    | .nx ρ1 S1 => gs ds ρ1 S1
    | .exn e ρ1 S1 => .exn e ρ1 S1
    | _ => .bad)
  | _, _, _ => .bad
theorem jgs_nil : JGs X G W [] gsNil := PGs.imp pgs_nil fun vs σ H Q ⟨m, ρ, S, ds, sr, sm, r, q⟩ => by
  cases ds with
  | nil => exact ⟨r, q σ H m sm.refl sm sr⟩
  | cons d ds => exact q.elim
theorem jgs_cons {es : List Expr} {g : DG} {gs : DGs} (h1 : JG X G W e g) (h2 : JGs X G W es gs) (hs : (assignEach (e :: es) X.env).map (·.2) = assign e X.env :: (assignEach es X.env).map (·.2) := by rfl) : JGs X G W (e :: es) (gsCons g gs) :=
  PGs.imp (pgs_cons h1 h2 hs) fun vs σ H Q ⟨m, ρ, S, ds, sr, sm, r, q⟩ => by
    cases ds with
    | nil => exact q.elim
    | cons d ds =>
      obtain ⟨v, vr, rfl, a, b⟩ := (show ∃ v r, vs = v :: r ∧ SV X.K m H d v ∧ SVs X.K m H ds r from r)
      refine ⟨v, vr, rfl, m, ρ, S, d, sr, sm, a, ?_⟩
      unfold gsCons at q
      dsimp only at q
      cases e1 : g d ρ S with
      | nx ρ1 S1 => rw [e1] at q; exact fun σ' H' m' s1 s2 s3 => ⟨m', ρ1, S1, ds, s3, s2, b.mono sm s1, SQ.step q s1⟩
      | exn x ρ1 S1 => rw [e1] at q; exact q
      | rt d S1 => rw [e1] at q; exact q.elim
      | bk ρ1 S1 => rw [e1] at q; exact q.elim
      | ct ρ1 S1 => rw [e1] at q; exact q.elim
      | bad => rw [e1] at q; exact q.elim
def gT (n : Nat) (gs : DGs) : DG := fun d ρ S => match seqAt S d with
  | some xs => if xs.length = n then gs xs ρ S else .bad
  | none => .bad
theorem jg_tup {es : List Expr} {k n : Nat} {gs : DGs} (hc : X.calm = true) (h : JGs X G W es gs) (hn : (assignEach es X.env).length = n := by rfl) (hst : (assignEach es X.env).findIdx? (·.1) = none := by rfl) : JG X G W (.Tuple es k pos) (gT n gs) :=
  PG.imp (PG.or (pg_tup hc h hn hst) (pg_lst hc h hn hst)) fun v σ H Q ⟨m, ρ, S, d, sr, sm, r, q⟩ => by
    unfold gT at q
    split at q
    · rename_i xs e1
      split at q
      · rename_i hl
        obtain ⟨p, vs, rfl, sv, sq⟩ := seqAt_ok sm e1 r
        rcases sq with sq | sq
        · exact .inr ⟨p, vs, rfl, sq, by rw [← sv.len]; exact hl, m, ρ, S, xs, sr, sm, sv, q⟩
        · exact .inl ⟨p, vs, rfl, sq, by rw [← sv.len]; exact hl, m, ρ, S, xs, sr, sm, sv, q⟩
      · exact q.elim
    · exact q.elim
/-- o[i] = v for a list -/
def gIx (fo fi : DE) : DG := fun d ρ S => liftS (fo ρ S) ρ fun o S1 => liftS (fi ρ S1) ρ fun i S2 => match o, i with
  | .obj n, .int k => (match lstAt S2 n with
    | some xs => (match ixN xs.length k with
      | some j => .nx ρ (S2.set n (.lst (xs.set j d)))
      | none => .bad)
    | none => .bad)
  | _, _ => .bad
theorem jg_ix {o i : Expr} {fo fi : DE} (ho : JE X G W o fo) (hi : JE X G W i fi)
    (ha : ∀ v, assign (.Subscript o i pos) X.env v = (do
      let ov ← holding [v] (eval o X.env)
      let iv ← holding [v, ov] (eval i X.env)
      standAt pos
      holding [v, ov, iv] (setItem ov iv v)
      release [v, ov, iv] []) := by intro _; rfl) : JG X G W (.Subscript o i pos) (gIx fo fi) :=
  PG.imp (pg_sub ho hi set_list ha) fun v σ H Q ⟨m, ρ, S, d, sr, sm, r, q⟩ => ⟨m, ρ, S, sr, sm, SQ.then (rel := SV X.K) q sr sm fun x S1 u H1 m1 st1 sm1 r1 q1 => ⟨m1, ρ, S1, sr.mono sm st1, sm1, SQ.then (rel := SV X.K) q1 (sr.mono sm st1) sm1 fun y S2 w H2 m2 st2 sm2 r2 q2 => by
    split at q2
    · rename_i n k
      split at q2
      · rename_i xs e1
        split at q2
        · rename_i j e2
          have r1 := r1.mono sm1 st2
          obtain ⟨a, rfl, hm⟩ := r1
          cases r2
          obtain ⟨a', vs, h1, h2, h3⟩ := lstAt_ok sm2 e1
          rw [hm] at h1; cases h1
          refine ⟨a, vs, k, j, rfl, rfl, h2, by rw [← h3.len]; exact e2, ?_⟩
          have st3 : Step m2 H2 m2 (upd H2 a (.lst (vs.set j v))) := Step.put sm2 hm
          have rd := (r.mono sm st1).mono sm1 st2
          exact q2 σ _ m2 st3 (sm2.put hm ⟨vs.set j v, upd_same, (h3.set rd j).mono sm2 st3⟩) ((sr.mono sm (st1.trans st2)).mono sm2 st3)
        · exact q2.elim
      · exact q2.elim
    · exact q2.elim⟩⟩
def dAsg (fe : DE) (g : DG) : DS := fun ρ S => liftS (fe ρ S) ρ fun d S1 => match g d ρ S1 with
  | .nx ρ1 S2 => .nx ρ1 S2
  | .exn e ρ1 S2 => .exn e ρ1 S2
  | _ => .bad
theorem js_asg {tg : Expr} {g : DG} (he : JE X G W e fe) (hg : JG X G W tg g) (hs : swapsWithSole [tg] e pos.line X.env = pure false := by rfl) (hw : swappedStores [tg] e X.env = pure none := by rfl)
    (h1 : (assignEach [tg] X.env).map (·.2) = [assign tg X.env] := by rfl) : JS X G W (.Assign [tg] e pos) (dAsg fe g) :=
  PS.imp (ps_asg he hg hs hw h1) fun E σ H ⟨m, ρ, S, sr, sm, q⟩ => ⟨m, ρ, S, sr, sm, SQ.then (rel := SV X.K) q sr sm fun d S1 v H1 m1 st1 sm1 r1 q1 => ⟨m1, ρ, S1, d, sr.mono sm st1, sm1, r1, by
    cases e1 : g d ρ S1 with
    | nx ρ1 S2 => rw [e1] at q1; exact q1
    | exn x ρ1 S2 => rw [e1] at q1; exact q1
    | rt d S2 => rw [e1] at q1; exact q1.elim
    | bk ρ1 S2 => rw [e1] at q1; exact q1.elim
    | ct ρ1 S2 => rw [e1] at q1; exact q1.elim
    | bad => rw [e1] at q1; exact q1.elim⟩⟩
/-- name = e -/
theorem js_set (i : Nat) {x : Str} {pos' : Pos} (hN : X.N.Nodup) (he : JE X G W e fe) (hi : X.N[i]? = some x := by rfl) (hx : Loc X.env.scope x := by first | exact Or.inl rfl | exact Or.inr rfl) (hs : swapsWith e (some (.Name x pos')) pos.line X.env = pure false := by rfl)
    (hf : X.fn x = true ∨ X.env.scope.names.lookup x = some .local := by first | exact .inl rfl | exact .inr rfl) : JS X G W (.Assign [.Name x pos'] e pos) (dAsg fe (gN i)) :=
  PS.imp (ps_set hN hi hx he hs hf) fun E σ H ⟨m, ρ, S, sr, sm, q⟩ => ⟨m, ρ, S, sr, sm, SQ.then (rel := SV X.K) q sr sm fun d S1 v H1 m1 st1 sm1 r1 q1 => q1 _ H1 m1 sm1.refl sm1 ((sr.mono sm st1).set i r1)⟩
/-- a, b = x, y of plain locals -/
def dPar2 (i j : Nat) (fr : DA) : DS := fun ρ S => liftS (fr ρ S) ρ fun ds S1 => match ds with
  | [d, e] => .nx ((ρ.set i (some d)).set j (some e)) S1
  | _ => .bad
def dPar3 (i j l : Nat) (fr : DA) : DS := fun ρ S => liftS (fr ρ S) ρ fun ds S1 => match ds with
  | [d, e, g] => .nx (((ρ.set i (some d)).set j (some e)).set l (some g)) S1
  | _ => .bad
theorem js_par2 (i j : Nat) {x y : Str} {a b : Expr} {fr : DA} {px py pt : Pos} {kt k2 pt2} (hc : X.calm = true) (hN : X.N.Nodup) (ha : JA X G W [a, b] fr) (hi : X.N[i]? = some x := by rfl) (hj : X.N[j]? = some y := by rfl) (hij : i ≠ j := by decide)
    (hx : X.env.scope.names.lookup x = some .local := by rfl) (hy : X.env.scope.names.lookup y = some .local := by rfl)
    (hw : swappedStores [.Tuple [.Name x px, .Name y py] kt pt] (.Tuple [a, b] k2 pt2) X.env = pure (some [x, y]) := by rfl)
    (hs : swapsWithSole [.Tuple [.Name x px, .Name y py] kt pt] (.Tuple [a, b] k2 pt2) pos.line X.env = pure false := by rfl) : JS X G W (.Assign [.Tuple [.Name x px, .Name y py] kt pt] (.Tuple [a, b] k2 pt2) pos) (dPar2 i j fr) :=
  PS.imp (ps_par hc hN hi hj hij hx hy ha hw hs) fun E σ H ⟨m, ρ, S, sr, sm, q⟩ => ⟨m, ρ, S, sr, sm, SQ.then (rel := SVs X.K) q sr sm fun ds S1 vs H1 m1 st1 sm1 r1 q1 => by
    split at q1
    · rename_i d e
      obtain ⟨v, u, rfl, rv, ru⟩ := svs2 r1
      exact ⟨v, u, rfl, q1 _ H1 m1 sm1.refl sm1 (((sr.mono sm st1).set i rv).set j ru)⟩
    · exact q1.elim⟩
theorem js_par3 (i j l : Nat) {x y z : Str} {a b c : Expr} {fr : DA} {px py pz pt : Pos} {kt k2 pt2} (hc : X.calm = true) (hN : X.N.Nodup) (ha : JA X G W [a, b, c] fr) (hi : X.N[i]? = some x := by rfl) (hj : X.N[j]? = some y := by rfl) (hl : X.N[l]? = some z := by rfl)
    (hij : i ≠ j := by decide) (hil : i ≠ l := by decide) (hjl : j ≠ l := by decide)
    (hx : X.env.scope.names.lookup x = some .local := by rfl) (hy : X.env.scope.names.lookup y = some .local := by rfl) (hz : X.env.scope.names.lookup z = some .local := by rfl)
    (hw : swappedStores [.Tuple [.Name x px, .Name y py, .Name z pz] kt pt] (.Tuple [a, b, c] k2 pt2) X.env = pure (some [x, y, z]) := by rfl)
    (hs : swapsWithSole [.Tuple [.Name x px, .Name y py, .Name z pz] kt pt] (.Tuple [a, b, c] k2 pt2) pos.line X.env = pure false := by rfl) : JS X G W (.Assign [.Tuple [.Name x px, .Name y py, .Name z pz] kt pt] (.Tuple [a, b, c] k2 pt2) pos) (dPar3 i j l fr) :=
  PS.imp (ps_par3 hc hN hi hj hl hij hil hjl hx hy hz ha hw hs) fun E σ H ⟨m, ρ, S, sr, sm, q⟩ => ⟨m, ρ, S, sr, sm, SQ.then (rel := SVs X.K) q sr sm fun ds S1 vs H1 m1 st1 sm1 r1 q1 => by
    split at q1
    · rename_i d e g
      obtain ⟨v, r, rfl, rv, r1⟩ := r1
      obtain ⟨u, w, rfl, ru, rw'⟩ := svs2 r1
      exact ⟨v, u, w, rfl, q1 _ H1 m1 sm1.refl sm1 ((((sr.mono sm st1).set i rv).set j ru).set l rw')⟩
    · exact q1.elim⟩
/-- o.f = e -/
def dPutF (cs : List String) (f : Str) (fo fe : DE) : DS := fun ρ S => liftS (fe ρ S) ρ fun d S1 => liftS (fo ρ S1) ρ fun o S2 => match o, insAt S2 o with
  | .obj n, some (c, fs) => if c ∈ cs ∧ fs.length < 1000 then .nx ρ (S2.set n (.ins c (putD f d fs))) else .bad
  | _, _ => .bad
theorem js_fld {cs : List String} {f : Str} {o : Expr} {fo : DE} {pos' : Pos} (hC : ∀ c ∈ cs, Cls X.K (G.cA c) ∧ NoAttr X.K (G.cA c) f) (ho : JE X G W o fo) (he : JE X G W e fe) (hs : swapsWith e (some (.Attribute o f pos')) pos.line X.env = pure false := by rfl) :
    JS X G W (.Assign [.Attribute o f pos'] e pos) (dPutF cs f fo fe) :=
  PS.imp (ps_fld ho he hs) fun E σ H ⟨m, ρ, S, sr, sm, q⟩ => ⟨m, ρ, S, sr, sm, SQ.then (rel := SV X.K) q sr sm fun d S1 v H1 m1 st1 sm1 r1 q1 => ⟨m1, ρ, S1, sr.mono sm st1, sm1, SQ.then (rel := SV X.K) q1 (sr.mono sm st1) sm1 fun x S2 u H2 m2 st2 sm2 r2 q2 => by
    split at q2
    · rename_i n c fs e1
      split at q2
      · rename_i hc
        obtain ⟨n', p, dx, vfs, en, rfl, hm, hoo, hf⟩ := insAt_ok sm2 e1 r2
        cases en
        refine ⟨p, G.cA c, dx, vfs, rfl, hoo, (hC c hc.1).1, (hC c hc.1).2, by rw [← hf.len]; exact hc.2, ?_⟩
        have st3 : Step m2 H2 m2 (upd H2 p (.ins (G.cA c) dx (putF f v vfs))) := Step.put sm2 hm
        exact q2 σ _ m2 st3 (sm2.put hm ⟨dx, _, upd_same, (hf.put (r1.mono sm1 st2)).mono sm2 st3⟩) ((sr.mono sm (st1.trans st2)).mono sm2 st3)
      · exact q2.elim
    · exact q2.elim⟩⟩
/-- name op= e -/
def dAug (i : Nat) (g : D2) (fe : DE) : DS := fun ρ S => match ρ[i]? with
  | some (some x) => liftS (fe ρ S) ρ fun y S1 => (match g x y S1 with
    | some (d, S2) => .nx (ρ.set i (some d)) S2
    | none => .bad)
  | _ => .bad
theorem js_aug (i : Nat) {x : Str} {op : Operator} {g : D2} {pos' : Pos} (hN : X.N.Nodup) (ho : JOp X G (inplaceOp op) g) (he : JE X G W e fe) (hi : X.N[i]? = some x := by rfl) (hx : Loc X.env.scope x := by first | exact Or.inl rfl | exact Or.inr rfl)
    (hf : X.fn x = true ∨ X.env.scope.names.lookup x = some .local := by first | exact .inl rfl | exact .inr rfl) : JS X G W (.AugAssign (.Name x pos') op e pos) (dAug i g fe) :=
  PS.imp (ps_aug hN hi hx he ho hf) fun E σ H ⟨m, ρ, S, sr, sm, q⟩ => by
    unfold dAug at q
    split at q
    · rename_i d e1
      obtain ⟨v, h1, h2⟩ := sr.2 i d e1
      refine ⟨v, h1, m, ρ, S, sr, sm, SQ.then (rel := SV X.K) q sr sm fun y S1 u H1 m1 st1 sm1 r1 q1 => ?_⟩
      split at q1
      · rename_i d2 S2 e2
        exact ⟨m1, S1, d, y, d2, S2, sm1, h2.mono sm st1, r1, e2, fun w H' m' a b c => q1 _ H' m' a b ((sr.mono sm (st1.trans a)).set i c)⟩
      · exact q1.elim
    · exact q.elim
def imulD : D2
  | .int i, .int j, S => if i.natAbs.log2 + j.natAbs.log2 < 1000000 then some (.int (i * j), S) else none
  | _, _, _ => none
def iaddD : D2
  | .int i, .int j, S => some (.int (i + j), S)
  | .str x, .str y, S => if x.length + y.length ≤ 1000000 then some (.str (x ++ y), S) else none
  | _, _, _ => none
def isubD : D2
  | .int i, .int j, S => some (.int (i - j), S)
  | _, _, _ => none
theorem iop_mulW : OpR X (inplaceOp .Mult) (rI CMulW fun i j => .int (i * j)) := opI fun _ _ _ _ _ _ _ hc q => imul_int q hc.ok
theorem jip_mul : JOp X G (inplaceOp .Mult) imulD := by
  refine OpR.imp iop_mulW fun x y H Q ⟨m, S, a, b, d, S', sm, ra, rb, e, k⟩ => ?_
  unfold imulD at e
  split at e
  · rename_i S i j
    split at e
    · rename_i hz
      cases e; cases ra; cases rb
      exact ⟨i, j, rfl, rfl, hz, k _ H m sm.refl sm rfl⟩
    · cases e
  · cases e
theorem jip_add : JOp X G (inplaceOp .Add) iaddD := by
  refine OpR.imp (OpR.or iop_add iop_add_str) fun x y H Q ⟨m, S, a, b, d, S', sm, ra, rb, e, k⟩ => ?_
  unfold iaddD at e
  split at e
  · rename_i S i j
    cases e; cases ra; cases rb
    exact .inl ⟨i, j, rfl, rfl, k _ H m sm.refl sm rfl⟩
  · rename_i S i j
    split at e
    · rename_i hz
      cases e; cases ra; cases rb
      exact .inr ⟨i, j, rfl, rfl, size6 hz, k _ H m sm.refl sm rfl⟩
    · cases e
  · cases e
theorem jip_sub : JOp X G (inplaceOp .Sub) isubD := by
  refine OpR.imp iop_sub fun x y H Q ⟨m, S, a, b, d, S', sm, ra, rb, e, k⟩ => ?_
  unfold isubD at e
  split at e
  · rename_i S i j
    cases e; cases ra; cases rb
    exact ⟨i, j, rfl, rfl, k _ H m sm.refl sm rfl⟩
  · cases e
/-- raise C('m') -/
def dRaise (c : String) : DS := fun ρ S => .exn ⟨c⟩ ρ S
theorem js_raise {c : String} {bmB : List Value} {B newId initId : String} {x ms : Str} {j : Nat} {p p2 pos1 : Pos} (hc : X.calm = true) (tk : Takes X W) (F : ExcBaseFacts B newId initId bmB) (q : PySem.W.excIn X.K (G.cA c) bmB newId = true) (gC : X.mg x = some (.ref (G.cA c)))
    (kC : PySem.W.keepIn X.K (.ref (G.cA c)) = true) (r : Raises X (.ref (G.cA c))) (hg : Gl X x := by rfl) (hdb : (x == ("__debug__" : Str)) = false := by decide) : JS X G W (.Raise (some (.Call (.Name x p) [.Constant (.str ms) j p2] [] pos1)) none pos) (dRaise c) :=
  PS.imp (ps_raise hc tk (pmk_own F q gC kC r hg hdb)) fun E σ H ⟨m, ρ, S, sr, sm, q⟩ => q _ _ σ H m sm.refl sm sr rfl
/-! ### while -/
def whileD (c : DT) (f : DS) : Nat → DS
  | 0, _, _ => .bad
  | n + 1, ρ, S => liftS (c ρ S) ρ fun b S1 => if b = true then (match f ρ S1 with
    | .nx ρ2 S2 => whileD c f n ρ2 S2
    | .ct ρ2 S2 => whileD c f n ρ2 S2
    | .bk ρ2 S2 => .nx ρ2 S2
    | o => o) else .nx ρ S1
def fuel : Nat := 1000000
theorem js_while {c : Expr} {body : List Stmt} {dc : DT} (hp : PassesOwn (model X.prog X.w) X.A X.env X.xe) (hc : JT X G W c dc) (hb : JSs X G W body f) : JS X G W (.While c body [] pos) (whileD dc f fuel) :=
  PS.imp (ps_while hp hc hb) fun E σ H ⟨m, ρ, S, sr, sm, q⟩ => by
    refine ⟨fun n σ H => ∃ m ρ S, SR X.K m H ρ σ ∧ Sim X.K G m S H ∧ SQ X.K G W E m H (whileD dc f n ρ S), ⟨fuel, m, ρ, S, sr, sm, q⟩, ?_⟩
    rintro n σ H ⟨m, ρ, S, sr, sm, q⟩
    cases n with
    | zero => exact q.elim
    | succ n =>
      refine ⟨m, ρ, S, sr, sm, SQ.then (rel := eqR) q sr sm fun b S1 b' H1 m1 st1 sm1 r1 q1 => ?_⟩
      cases r1
      cases b with
      | false => exact q1 σ H1 m1 sm1.refl sm1 (sr.mono sm st1)
      | true =>
        refine ⟨fun σ H => ∃ m ρ S, SR X.K m H ρ σ ∧ Sim X.K G m S H ∧ SQ X.K G W E m H (whileD dc f n ρ S), fun σ' H' h => ⟨n, Nat.lt_succ_self _, h⟩, m1, ρ, S1, sr.mono sm st1, sm1, ?_⟩
        have q2 : SQ X.K G W E m1 H1 (match f ρ S1 with
          | .nx ρ2 S2 => whileD dc f n ρ2 S2
          | .ct ρ2 S2 => whileD dc f n ρ2 S2
          | .bk ρ2 S2 => .nx ρ2 S2
          | o => o) := q1
        cases e1 : f ρ S1 with
        | nx ρ2 S2 => rw [e1] at q2; exact fun σ' H' m' a b c => ⟨m', ρ2, S2, c, b, SQ.step q2 a⟩
        | ct ρ2 S2 => rw [e1] at q2; exact fun σ' H' m' a b c => ⟨m', ρ2, S2, c, b, SQ.step q2 a⟩
        | bk ρ2 S2 => rw [e1] at q2; exact q2
        | rt d S2 => rw [e1] at q2; exact q2
        | exn x ρ2 S2 => rw [e1] at q2; exact q2
        | bad => rw [e1] at q2; exact q2
end
end DL
set_option Elab.async false
set_option linter.all false
set_option maxRecDepth 100000
set_option maxHeartbeats 2000000
namespace DL
open PySem PySem.Spec PyProof.Rows L2
/-! ### equality of data, for guards -/
mutual
def D.beq : D → D → Bool
  | .non, .non => true
  | .bl a, .bl b => a == b
  | .int a, .int b => a == b
  | .str a, .str b => decide (a = b)
  | .tup a, .tup b => D.beqs a b
  | .fl a, .fl b => D.beqs a b
  | .obj a, .obj b => a == b
  | _, _ => false
def D.beqs : List D → List D → Bool
  | [], [] => true
  | a :: as, b :: bs => D.beq a b && D.beqs as bs
  | _, _ => false
end
mutual
theorem D.beq_eq : ∀ (a b : D), D.beq a b = true → a = b
  | .non, .non, _ => rfl
  | .bl a, .bl b, h => by simp [D.beq] at h; rw [h]
  | .int a, .int b, h => by simp [D.beq] at h; rw [h]
  | .str a, .str b, h => by simp [D.beq] at h; rw [h]
  | .tup a, .tup b, h => by simp only [D.beq] at h; rw [D.beqs_eq a b h]
  | .fl a, .fl b, h => by simp only [D.beq] at h; rw [D.beqs_eq a b h]
  | .obj a, .obj b, h => by simp [D.beq] at h; rw [h]
  | .non, .bl _, h | .non, .int _, h | .non, .str _, h | .non, .tup _, h | .non, .fl _, h | .non, .obj _, h => by simp [D.beq] at h
  | .bl _, .non, h | .bl _, .int _, h | .bl _, .str _, h | .bl _, .tup _, h | .bl _, .fl _, h | .bl _, .obj _, h => by simp [D.beq] at h
  | .int _, .non, h | .int _, .bl _, h | .int _, .str _, h | .int _, .tup _, h | .int _, .fl _, h | .int _, .obj _, h => by simp [D.beq] at h
  | .str _, .non, h | .str _, .bl _, h | .str _, .int _, h | .str _, .tup _, h | .str _, .fl _, h | .str _, .obj _, h => by simp [D.beq] at h
  | .tup _, .non, h | .tup _, .bl _, h | .tup _, .int _, h | .tup _, .str _, h | .tup _, .fl _, h | .tup _, .obj _, h => by simp [D.beq] at h
  | .fl _, .non, h | .fl _, .bl _, h | .fl _, .int _, h | .fl _, .str _, h | .fl _, .tup _, h | .fl _, .obj _, h => by simp [D.beq] at h
  | .obj _, .non, h | .obj _, .bl _, h | .obj _, .int _, h | .obj _, .str _, h | .obj _, .tup _, h | .obj _, .fl _, h => by simp [D.beq] at h
theorem D.beqs_eq : ∀ (a b : List D), D.beqs a b = true → a = b
  | [], [], _ => rfl
  | a :: as, b :: bs, h => by simp only [D.beqs, Bool.and_eq_true] at h; rw [D.beq_eq a b h.1, D.beqs_eq as bs h.2]
  | [], _ :: _, h => by simp [D.beqs] at h
  | _ :: _, [], h => by simp [D.beqs] at h
end
mutual
theorem D.beq_refl : ∀ (a : D), D.beq a a = true
  | .non => rfl
  | .bl a => by simp [D.beq]
  | .int a => by simp [D.beq]
  | .str a => by simp [D.beq]
  | .tup a => by simp only [D.beq]; exact D.beqs_refl a
  | .fl a => by simp only [D.beq]; exact D.beqs_refl a
  | .obj a => by simp [D.beq]
theorem D.beqs_refl : ∀ (a : List D), D.beqs a a = true
  | [] => rfl
  | a :: as => by simp only [D.beqs, Bool.and_eq_true]; exact ⟨D.beq_refl a, D.beqs_refl as⟩
end
/-! ### what a loop walks -/
structure Src where
  items : List D
  grd : Store → Bool
def SrcOk (K : PySem.W.Frag) (G : Gx) (m1 : List Addr) (H1 : Hp) (src : Src) (J : It) : Prop :=
  Walk J src.items.length (fun H' => ∃ m' S', Step m1 H1 m' H' ∧ Sim K G m' S' H' ∧ src.grd S' = true)
    (fun i H' x H'' => ∀ m' S', Step m1 H1 m' H' → Sim K G m' S' H' → src.grd S' = true → ∃ d, src.items[i]? = some d ∧ Step m' H' m' H'' ∧ Sim K G m' S' H'' ∧ SV K m' H'' d x)
abbrev DI := DEnv → Store → Out Src
def tDI (K : PySem.W.Frag) (G : Gx) (W : WX) (f : DI) : TI := fun σ H R => ∃ m ρ S, SR K m H ρ σ ∧ Sim K G m S H ∧ EO K G (SrcOk K G) R (fun c d H' => W c d σ H') m H (f ρ S)
abbrev JI (X : Cx) (G : Gx) (W : WX) (tg iter : Expr) (f : DI) : Prop := PI X tg iter (tDI X.K G W f)
theorem PI.imp {X : Cx} {tg iter : Expr} {t t' : TI} (h : PI X tg iter t) (f : ∀ σ H R, t' σ H R → t σ H R) : PI X tg iter t' := ⟨fun pins s σ H R I q => h.run pins s σ H R I (f σ H R q)⟩
def grdT : Store → Bool := fun _ => true
def grdL (n : Nat) (xs : List D) : Store → Bool := fun S => match lstAt S n with
  | some ys => D.beqs xs ys
  | none => false
theorem grdL_ok {S : Store} {n : Nat} {xs : List D} (h : grdL n xs S = true) : lstAt S n = some xs := by
  unfold grdL at h
  split at h
  · rename_i ys e
    rw [D.beqs_eq xs ys h]; exact e
  · cases h
def srcOf (d : D) (S : Store) : Option (Src × Store) := match d with
  | .tup xs => some (⟨xs, grdT⟩, S)
  | .fl xs => some (⟨xs, grdT⟩, S)
  | .obj n => (lstAt S n).map fun xs => (⟨xs, grdL n xs⟩, S)
  | _ => none
def diSeq (fe : DE) : DI := fun ρ S => (fe ρ S).bind fun d S1 => optO (srcOf d S1)
section
variable {K : PySem.W.Frag} {G : Gx} {m1 : List Addr} {H1 : Hp} {S1 : Store}
/-- items that stand still, read by place -/
theorem srcOk_of {xs : List D} {grd : Store → Bool} {J : It} {ws : List V} (sm : Sim K G m1 S1 H1) (sv : SVs K m1 H1 xs ws) (w : Walk J ws.length (fun H' => ∃ m' S', Step m1 H1 m' H' ∧ Sim K G m' S' H' ∧ grd S' = true) (YAt ws)) : SrcOk K G m1 H1 ⟨xs, grd⟩ J := by
  show Walk J xs.length _ _
  rw [sv.len]
  refine ⟨w.goes, w.stops, fun i H' x H'' hi hG hy m' S' st sm' hg' => ?_⟩
  obtain ⟨e, hx⟩ := w.yields i H' x H'' hi hG hy
  subst e
  have hi' : i < xs.length := by rw [sv.len]; exact hi
  obtain ⟨v, h1, h2⟩ := sv.get (i := i) (d := xs[i]) (by simp [hi'])
  rw [hx] at h1
  cases h1
  exact ⟨xs[i], by simp [hi'], sm'.refl, sm', h2.mono sm st⟩
theorem srcOk_lst {xs : List D} {ws : List V} {a : Addr} {n : Nat} (sm : Sim K G m1 S1 H1) (hm : m1[n]? = some a) (e : H1 a = some (.lst ws)) (sv : SVs K m1 H1 xs ws) : SrcOk K G m1 H1 ⟨xs, grdL n xs⟩ (Itl K a) := by
  have key : ∀ H' m' S', Step m1 H1 m' H' → Sim K G m' S' H' → grdL n xs S' = true → ∃ (us : List V), H' a = some (.lst us) ∧ SVs K m' H' xs us := by
    intro H' m' S' st sm' hg
    obtain ⟨a', us, h1, h2, h3⟩ := lstAt_ok sm' (grdL_ok hg)
    rw [st.get hm] at h1; cases h1
    exact ⟨us, h2, h3⟩
  show Walk (Itl K a) xs.length _ _
  refine ⟨fun i H' hi ⟨m', S', st, sm', hg⟩ => ?_, fun H' ⟨m', S', st, sm', hg⟩ => ?_, fun i H' x H'' hi _ hy m' S' st sm' hg => ?_⟩
  · obtain ⟨us, h2, h3⟩ := key H' m' S' st sm' hg
    exact ⟨us, us[i]'(by rw [← h3.len]; exact hi), SqL.of h2, by simp⟩
  · obtain ⟨us, h2, h3⟩ := key H' m' S' st sm' hg
    exact ⟨us, SqL.of h2, by rw [h3.len]; exact Nat.le_refl _⟩
  · obtain ⟨us, h2, h3⟩ := key H' m' S' st sm' hg
    obtain ⟨e', hx⟩ := hy
    subst e'
    have hx := hx us (SqL.of h2)
    obtain ⟨v, h4, h5⟩ := h3.get (i := i) (d := xs[i]) (by simp [hi])
    rw [hx] at h4; cases h4
    exact ⟨xs[i], by simp [hi], sm'.refl, sm', h5⟩
theorem sqF_walk {xs : List V} {a : Addr} (sm : Sim K G m1 S1 H1) (h : SqF K H1 a xs) {grd : Store → Bool} : Walk (Itl K a) xs.length (fun H' => ∃ m' S', Step m1 H1 m' H' ∧ Sim K G m' S' H' ∧ grd S' = true) (YAt xs) :=
  (walk_list (K := K) (a := a) (xs := xs)).mono (fun H' ⟨m', S', st, _, _⟩ => (sqF_step sm st h).l) fun _ _ _ _ _ _ y => y
theorem sqT_walk {xs : List V} {a : Addr} (sm : Sim K G m1 S1 H1) (h : SqT K H1 a xs) {grd : Store → Bool} : Walk (Itt K a) xs.length (fun H' => ∃ m' S', Step m1 H1 m' H' ∧ Sim K G m' S' H' ∧ grd S' = true) (YAt xs) :=
  (walk_tup (K := K) (a := a) (xs := xs)).mono (fun H' ⟨m', S', st, _, _⟩ => sqT_step sm st h) fun _ _ _ _ _ _ y => y
/-- numbers -/
def rngD (lo c : Int) (n : Nat) : List D := (List.range n).map fun (i : Nat) => D.int (lo + (i : Int) * c)
theorem srcOk_fn {J : It} {f : Nat → Int} {n : Nat} {xs : List D} (hl : xs.length = n) (hx : ∀ i, i < n → xs[i]? = some (.int (f i))) (w : Walk J n (fun _ => True) (YFn fun i => .int (f i))) : SrcOk K G m1 H1 ⟨xs, grdT⟩ J := by
  show Walk J xs.length _ _
  rw [hl]
  refine ⟨fun i H hi _ => w.goes i H hi trivial, fun H _ => w.stops H trivial, fun i H' x H'' hi _ hy m' S' st sm' _ => ?_⟩
  obtain ⟨e, hx'⟩ := w.yields i H' x H'' hi trivial hy
  subst e
  exact ⟨.int (f i), hx i hi, sm'.refl, sm', hx'⟩
end
section
variable {X : Cx} {G : Gx} {W : WX} {tg e : Expr} {fe : DE} {p pos : Pos}
/-- a list or a tuple, by its value -/
theorem pi_seq {l : Expr} {tl : TE} (hl : PE X l tl) : PI X tg l (fun σ H R => tl σ H fun x H1 => ∃ a, x = .ref a ∧ ((∃ xs, SqL X.K H1 a xs) ∧ R (Itl X.K a) H1 ∨ (∃ xs, SqT X.K H1 a xs) ∧ R (Itt X.K a) H1)) := by
  refine ⟨fun pins s σ H R I h => ?_⟩
  refine thn (hl.run pins s σ H _ I h) fun v s1 ⟨x, H1, I1, r1, q1⟩ => ?_
  obtain ⟨a, e, hq⟩ := q1
  subst e
  cases r1
  rcases hq with ⟨⟨xs, hq⟩, q⟩ | ⟨⟨xs, hq⟩, q⟩
  · obtain ⟨its, rv, p, hz⟩ := I1.list hq
    refine wpAny_pyIter_list p.isList ?_
    refine ⟨s1.heap.objs.size, [s1.heap.objs.size], _, _, H1, rfl, I1.kept (t' := s1.toks) fun b o e => Heap.get?_push_of_some _ e, turn_list a _, ⟨_, Heap.get?_push_size _ rfl, rfl, rfl⟩, fun b hb => ?_, q⟩
    have e : b = s1.heap.objs.size := by simpa using hb
    subst e
    exact I1.fpOk (Nat.le_refl _) (I1.hok.fresh (Nat.le_refl _))
  · obtain ⟨its, rv, p, hz⟩ := I1.tuple hq
    refine wpAny_pyIter_tuple (show s1.heap.IsTuple a its.toArray from p) ?_
    refine ⟨s1.heap.objs.size, [s1.heap.objs.size], _, _, H1, rfl, I1.kept (t' := s1.toks) fun b o e => Heap.get?_push_of_some _ e, turn_tuple a _, ⟨_, Heap.get?_push_size _ rfl, rfl, rfl⟩, fun b hb => ?_, q⟩
    have e : b = s1.heap.objs.size := by simpa using hb
    subst e
    exact I1.fpOk (Nat.le_refl _) (I1.hok.fresh (Nat.le_refl _))
theorem ji_seq (he : JE X G W e fe) : JI X G W tg e (diSeq fe) :=
  PI.imp (pi_seq he) fun σ H R ⟨m, ρ, S, sr, sm, eo⟩ => ⟨m, ρ, S, sr, sm, EO.then (rel := SV X.K) eo fun d S1 v H1 m1 st1 sm1 r1 eo1 => by
    cases d with
    | tup xs =>
      obtain ⟨a, vs, rfl, q, r⟩ := r1
      exact ⟨a, rfl, .inr ⟨⟨vs, q⟩, eo1 _ H1 m1 sm1.refl sm1 (srcOk_of sm1 r (sqT_walk sm1 q))⟩⟩
    | fl xs =>
      obtain ⟨a, vs, rfl, q, r⟩ := r1
      exact ⟨a, rfl, .inl ⟨⟨vs, q.l⟩, eo1 _ H1 m1 sm1.refl sm1 (srcOk_of sm1 r (sqF_walk sm1 q))⟩⟩
    | obj n =>
      unfold srcOf at eo1
      dsimp only at eo1
      cases z : lstAt S1 n with
      | none => rw [z] at eo1; exact eo1.elim
      | some xs =>
        rw [z] at eo1
        obtain ⟨a, rfl, hm⟩ := r1
        obtain ⟨a', vs, h1, h2, h3⟩ := lstAt_ok sm1 z
        rw [hm] at h1; cases h1
        exact ⟨a, rfl, .inl ⟨⟨vs, SqL.of h2⟩, eo1 _ H1 m1 sm1.refl sm1 (srcOk_lst sm1 hm h2 h3)⟩⟩
    | _ => exact eo1.elim⟩
def diRange1 (fe : DE) : DI := fun ρ S => (fe ρ S).bind fun d S1 => match d with
  | .int j => if -1000000000000 ≤ j ∧ j ≤ 1000000000000 then .ok ⟨rngD 0 1 j.toNat, grdT⟩ S1 else .bad
  | _ => .bad
def diRange2 (fa fb : DE) : DI := fun ρ S => (fa ρ S).bind fun d S1 => (fb ρ S1).bind fun e S2 => match d, e with
  | .int i, .int j => if (-1000000000000 ≤ i ∧ i ≤ 1000000000000) ∧ -1000000000000 ≤ j ∧ j ≤ 1000000000000 then .ok ⟨rngD i 1 (j - i).toNat, grdT⟩ S2 else .bad
  | _, _ => .bad
def diRev1 (fe : DE) : DI := fun ρ S => (fe ρ S).bind fun d S1 => match d with
  | .int j => if -1000000000000 ≤ j ∧ j ≤ 1000000000000 then .ok ⟨rngD (j - 1) (-1) j.toNat, grdT⟩ S1 else .bad
  | _ => .bad
theorem rngD_len (lo c : Int) (n : Nat) : (rngD lo c n).length = n := by simp [rngD]
theorem rngD_at (lo c : Int) (n i : Nat) (h : i < n) : (rngD lo c n)[i]? = some (.int (lo + (i : Int) * c)) := by simp [rngD, h]
theorem ji_range1 (hm : X.mg "range" = none) (he : JE X G W e fe) (hg : Gl X "range" := by rfl) (hs : starEach [e] X.env = [(false, eval e X.env)] := by rfl) : JI X G W tg (.Call (.Name "range" p) [e] [] pos) (diRange1 fe) :=
  PI.imp (pi_range1 hg hm (ja_cons he ja_nil hs) hs) fun σ H R ⟨m, ρ, S, sr, sm, eo⟩ => ⟨m, ρ, S, sr, sm, by
    unfold daCons daNil
    unfold diRange1 at eo
    cases z : fe ρ S with
    | bad => rw [z] at eo; exact eo.elim
    | exn x S1 => rw [z] at eo; exact eo
    | ok d S1 =>
      rw [z] at eo
      simp only [Out.bind_ok] at eo ⊢
      intro vs H1 m1 st1 sm1 r1
      have eo1 := eo.step st1
      obtain ⟨v, rfl, rv⟩ := svs1 r1
      split at eo1
      · rename_i j
        split at eo1
        · rename_i hz
          cases rv
          exact ⟨j, rfl, by omega, by omega, eo1 _ H1 m1 sm1.refl sm1 (srcOk_fn (rngD_len _ _ _) (fun i hi => by rw [rngD_at _ _ _ _ hi, Int.mul_one]) walk_range)⟩
        · exact eo1.elim
      · exact eo1.elim⟩
theorem ji_range2 {a b : Expr} {fa fb : DE} (hm : X.mg "range" = none) (ha : JE X G W a fa) (hb : JE X G W b fb) (hg : Gl X "range" := by rfl) (hs : starEach [a, b] X.env = [(false, eval a X.env), (false, eval b X.env)] := by rfl) (hs2 : starEach [b] X.env = [(false, eval b X.env)] := by rfl)
    (h1 : starEach (a :: [b]) X.env = (false, eval a X.env) :: starEach [b] X.env := by rfl) : JI X G W tg (.Call (.Name "range" p) [a, b] [] pos) (diRange2 fa fb) :=
  PI.imp (pi_range2 hg hm (ja_cons ha (ja_cons hb ja_nil hs2) h1) hs hs2) fun σ H R ⟨m, ρ, S, sr, sm, eo⟩ => ⟨m, ρ, S, sr, sm, by
    unfold daCons daNil
    unfold diRange2 at eo
    cases z : fa ρ S with
    | bad => rw [z] at eo; exact eo.elim
    | exn x S1 => rw [z] at eo; exact eo
    | ok d S1 =>
      rw [z] at eo
      simp only [Out.bind_ok] at eo ⊢
      cases z2 : fb ρ S1 with
      | bad => rw [z2] at eo; exact eo.elim
      | exn x S1 => rw [z2] at eo; exact eo
      | ok d2 S2 =>
        rw [z2] at eo
        simp only [Out.bind_ok] at eo ⊢
        intro vs H1 m1 st1 sm1 r1
        have eo1 := eo.step st1
        obtain ⟨v, u, rfl, rv, ru⟩ := svs2 r1
        split at eo1
        · rename_i i j
          split at eo1
          · rename_i hz
            cases rv; cases ru
            exact ⟨i, j, rfl, ⟨by omega, by omega, by omega, by omega⟩, eo1 _ H1 m1 sm1.refl sm1 (srcOk_fn (rngD_len _ _ _) (fun i hi => by rw [rngD_at _ _ _ _ hi, Int.mul_one]) walk_range)⟩
          · exact eo1.elim
        · exact eo1.elim⟩
theorem ji_rev1 {p2 pos2 : Pos} (hm : X.mg "reversed" = none) (hm2 : X.mg "range" = none) (he : JE X G W e fe) (hg : Gl X "reversed" := by rfl) (hg2 : Gl X "range" := by rfl) (hs : starEach [e] X.env = (false, eval e X.env) :: starEach [] X.env := by rfl)
    (hs2 : starEach [.Call (.Name "range" p2) [e] [] pos2] X.env = (false, eval (.Call (.Name "range" p2) [e] [] pos2) X.env) :: starEach [] X.env := by rfl) :
    JI X G W tg (.Call (.Name "reversed" p) [.Call (.Name "range" p2) [e] [] pos2] [] pos) (diRev1 fe) :=
  PI.imp (pi_revR hg hm (prg_1 hg2 hm2 he hs) hs2) fun σ H R ⟨m, ρ, S, sr, sm, eo⟩ => ⟨m, ρ, S, sr, sm, EO.then (rel := SV X.K) eo fun d S1 v H1 m1 st1 sm1 r1 eo1 => by
    split at eo1
    · rename_i j
      split at eo1
      · rename_i hz
        cases r1
        refine ⟨j, rfl, by omega, by omega, by omega, by omega, eo1 _ H1 m1 sm1.refl sm1 ?_⟩
        rw [Int.sub_zero, Int.zero_add]
        refine srcOk_fn (f := fun (i : Nat) => ((j.toNat : Nat) : Int) - 1 + (i : Int) * (-1)) (rngD_len _ _ _) (fun i hi => ?_) walk_rangeC
        rw [rngD_at _ _ _ _ hi]
        have : ((j.toNat : Nat) : Int) = j := by omega
        rw [this]
      · exact eo1.elim
    · exact eo1.elim⟩
/-! ### for -/
def forD (grd : Store → Bool) (g : DG) (f : DS) : List D → DS
  | [], ρ, S => if grd S = true then .nx ρ S else .bad
  | d :: ds, ρ, S => if grd S = true then (match g d ρ S with
    | .nx ρ1 S1 => (match f ρ1 S1 with
      | .nx ρ2 S2 => forD grd g f ds ρ2 S2
      | .ct ρ2 S2 => forD grd g f ds ρ2 S2
      | .bk ρ2 S2 => .nx ρ2 S2
      | o => o)
    | .exn e ρ1 S1 => .exn e ρ1 S1
    | _ => .bad) else .bad
def dFor (fi : DI) (g : DG) (f : DS) : DS := fun ρ S => liftS (fi ρ S) ρ fun src S1 => forD src.grd g f src.items ρ S1
theorem forD_grd {K : PySem.W.Frag} {G : Gx} {W : WX} {E : Ends} {m : List Addr} {H : Hp} {grd : Store → Bool} {g : DG} {f : DS} {ds : List D} {ρ : DEnv} {S : Store} (h : SQ K G W E m H (forD grd g f ds ρ S)) : grd S = true := by
  cases q : grd S with
  | true => rfl
  | false =>
    exfalso
    cases ds with
    | nil =>
      unfold forD at h
      rw [q] at h
      exact h
    | cons d ds =>
      unfold forD at h
      rw [q] at h
      exact h
theorem js_for {iter : Expr} {body : List Stmt} {fi : DI} {g : DG} {f : DS} (hp : PassesOwn (model X.prog X.w) X.A X.env X.xe) (hc : X.calm = true) (hi : JI X G W tg iter fi) (hg : JG X G W tg g) (hb : JSs X G W body f)
    (hs : ∀ x, foldedSetIterable iter X.env x = pure x := by intro _; rfl) : JS X G W (.For tg iter body [] pos) (dFor fi g f) :=
  PS.imp (ps_for hp hc hi hg hb hs) fun E σ H ⟨m, ρ, S, sr, sm, q⟩ => ⟨m, ρ, S, sr, sm, SQ.then (rel := SrcOk X.K G) q sr sm fun src S1 J H1 m1 st1 sm1 w q1 => by
    refine for_it w (fun i σ H => ∃ m ρ S, Step m1 H1 m H ∧ SR X.K m H ρ σ ∧ Sim X.K G m S H ∧ SQ X.K G W E m H (forD src.grd g f (src.items.drop i) ρ S)) ⟨m1, ρ, S1, sm1.refl, sr.mono sm st1, sm1, q1⟩
      (fun i σ H _ ⟨m, ρ, S, a, b, c, d⟩ => ⟨m, S, a, c, forD_grd d⟩) ?_ ?_
    · rintro i x σ H H' hi ⟨m, ρ, S, st, sr, sm, q⟩ hy
      have hgd := forD_grd q
      obtain ⟨d, hd, st2, sm2, sv⟩ := hy m S st sm hgd
      have e0 : src.items.drop i = d :: src.items.drop (i + 1) := by
        rw [List.drop_eq_getElem_cons hi]
        rw [List.getElem?_eq_getElem hi] at hd
        cases hd
        rfl
      rw [e0] at q
      unfold forD at q
      rw [if_pos hgd] at q
      refine ⟨m, ρ, S, d, sr.mono sm st2, sm2, sv, ?_⟩
      have q := SQ.step q st2
      cases e1 : g d ρ S with
      | nx ρ1 S1 =>
        rw [e1] at q
        intro σ' H3 m3 st3 sm3 sr3
        refine ⟨m3, ρ1, S1, sr3, sm3, ?_⟩
        have q := SQ.step q st3
        dsimp only at q
        cases e2 : f ρ1 S1 with
        | nx ρ2 S2 => rw [e2] at q; exact fun σ4 H4 m4 a b c => ⟨m4, ρ2, S2, st.trans (st2.trans (st3.trans a)), c, b, SQ.step q a⟩
        | ct ρ2 S2 => rw [e2] at q; exact fun σ4 H4 m4 a b c => ⟨m4, ρ2, S2, st.trans (st2.trans (st3.trans a)), c, b, SQ.step q a⟩
        | bk ρ2 S2 => rw [e2] at q; exact q
        | rt d S2 => rw [e2] at q; exact q
        | exn x ρ2 S2 => rw [e2] at q; exact q
        | bad => rw [e2] at q; exact q
      | exn x ρ1 S1 => rw [e1] at q; exact q
      | rt d S2 => rw [e1] at q; exact q.elim
      | bk ρ1 S1 => rw [e1] at q; exact q.elim
      | ct ρ1 S1 => rw [e1] at q; exact q.elim
      | bad => rw [e1] at q; exact q.elim
    · rintro σ H ⟨m, ρ, S, st, sr, sm, q⟩
      have hgd := forD_grd q
      rw [List.drop_length] at q
      unfold forD at q
      rw [if_pos hgd] at q
      exact q σ H m sm.refl sm sr⟩
end
end DL
set_option Elab.async false
set_option linter.all false
set_option maxRecDepth 100000
set_option maxHeartbeats 2000000
namespace DL
open PySem PySem.Spec PyProof.Rows L2
/-! ### targets of comprehensions: only the block's own slots change -/
def Agree (vs : List Nat) (σ σ' : L2.St) : Prop := σ'.length = σ.length ∧ ∀ j, j ∉ vs → σ'[j]? = σ[j]?
theorem Agree.refl {vs : List Nat} {σ : L2.St} : Agree vs σ σ := ⟨rfl, fun _ _ => rfl⟩
theorem Agree.trans {vs : List Nat} {σ σ1 σ2 : L2.St} (a : Agree vs σ σ1) (b : Agree vs σ1 σ2) : Agree vs σ σ2 := ⟨b.1.trans a.1, fun j hj => (b.2 j hj).trans (a.2 j hj)⟩
theorem wipe_get (σ : L2.St) : ∀ (vs : List Nat) (j : Nat), (wipe σ vs)[j]? = if j ∈ vs ∧ j < σ.length then some none else σ[j]?
  | [], j => by simp [wipe]
  | v :: vs, j => by
    have ih := wipe_get σ vs j
    have hl := wipe_length σ vs
    unfold wipe
    by_cases e : v = j
    · subst e
      by_cases hlt : v < σ.length
      · rw [List.getElem?_set_self (by rw [hl]; exact hlt), if_pos ⟨List.mem_cons_self, hlt⟩]
      · rw [List.getElem?_eq_none_iff.mpr (by rw [List.length_set, hl]; omega), if_neg (fun z => hlt z.2), List.getElem?_eq_none_iff.mpr (by omega)]
    · rw [List.getElem?_set_ne e, ih]
      by_cases h : j ∈ vs ∧ j < σ.length
      · rw [if_pos h, if_pos ⟨List.mem_cons_of_mem _ h.1, h.2⟩]
      · rw [if_neg h, if_neg (fun z => h ⟨(List.mem_cons.mp z.1).resolve_left (Ne.symm e), z.2⟩)]
theorem wipe_agree {vs : List Nat} {σ σ' : L2.St} (a : Agree vs (wipe σ vs) σ') : wipe σ' vs = wipe σ vs := by
  apply List.ext_getElem?
  intro j
  have h1 := wipe_length σ vs
  rw [wipe_get σ' vs j]
  by_cases h : j ∈ vs
  · by_cases hl : j < σ'.length
    · rw [if_pos ⟨h, hl⟩, wipe_get, if_pos ⟨h, by rw [← h1, ← a.1]; exact hl⟩]
    · rw [if_neg (fun z => hl z.2), List.getElem?_eq_none_iff.mpr (by omega), List.getElem?_eq_none_iff.mpr (by rw [← a.1]; omega)]
  · rw [if_neg (fun z => h z.1)]
    exact a.2 j h
def wipeD (ρ : DEnv) : List Nat → DEnv
  | [] => ρ
  | v :: vs => (wipeD ρ vs).set v none
theorem SR.unset {K : PySem.W.Frag} {m : List Addr} {H : Hp} {ρ : DEnv} {σ : L2.St} (h : SR K m H ρ σ) (i : Nat) : SR K m H (ρ.set i none) (σ.set i none) := by
  refine ⟨by simp [h.1], fun j e hj => ?_⟩
  by_cases hij : i = j
  · subst hij
    have hlt : i < ρ.length := by
      have := (List.getElem?_eq_some_iff.mp hj).1
      simpa using this
    rw [List.getElem?_set_self hlt] at hj
    cases hj
  · rw [List.getElem?_set_ne hij] at hj
    obtain ⟨u, h1, h2⟩ := h.2 j e hj
    exact ⟨u, by rw [List.getElem?_set_ne hij]; exact h1, h2⟩
theorem SR.wipe {K : PySem.W.Frag} {m : List Addr} {H : Hp} {ρ : DEnv} {σ : L2.St} (h : SR K m H ρ σ) : ∀ vs : List Nat, SR K m H (wipeD ρ vs) (L2.wipe σ vs)
  | [] => h
  | v :: vs => (SR.wipe h vs).unset v
def tDGv (K : PySem.W.Frag) (G : Gx) (W : WX) (vs : List Nat) (f : DG) : TG := fun v σ H Q => ∃ m ρ S d, SR K m H ρ σ ∧ Sim K G m S H ∧ SV K m H d v ∧ SQ K G W (noEnds fun σ' H' => Agree vs σ σ' → Q σ' H') m H (f d ρ S)
def tDGsv (K : PySem.W.Frag) (G : Gx) (W : WX) (vs : List Nat) (f : DGs) : TGs := fun us σ H Q => ∃ m ρ S ds, SR K m H ρ σ ∧ Sim K G m S H ∧ SVs K m H ds us ∧ SQ K G W (noEnds fun σ' H' => Agree vs σ σ' → Q σ' H') m H (f ds ρ S)
abbrev JGv (X : Cx) (G : Gx) (W : WX) (vs : List Nat) (tg : Expr) (f : DG) : Prop := PG X tg (tDGv X.K G W vs f)
abbrev JGsv (X : Cx) (G : Gx) (W : WX) (vs : List Nat) (tg : List Expr) (f : DGs) : Prop := PGs X tg (tDGsv X.K G W vs f)
section
variable {X : Cx} {G : Gx} {W : WX} {vs : List Nat} {e : Expr} {pos : Pos}
theorem jgv_name (i : Nat) {x : Str} (hN : X.N.Nodup) (hv : i ∈ vs) (hi : X.N[i]? = some x := by rfl) (hx : Loc X.env.scope x := by first | exact Or.inl rfl | exact Or.inr rfl) (hf : X.fn x = true ∨ X.env.scope.names.lookup x = some .local := by first | exact .inl rfl | exact .inr rfl) : JGv X G W vs (.Name x pos) (gN i) :=
  PG.imp (pg_name hN hi hx hf) fun v σ H Q ⟨m, ρ, S, d, sr, sm, r, q⟩ => q _ H m sm.refl sm (sr.set i r) ⟨by simp, fun j hj => by
    have ne : i ≠ j := fun z => hj (by rw [← z]; exact hv)
    rw [List.getElem?_set_ne ne]⟩
theorem jgsv_nil : JGsv X G W vs [] gsNil := PGs.imp pgs_nil fun us σ H Q ⟨m, ρ, S, ds, sr, sm, r, q⟩ => by
  cases ds with
  | nil => exact ⟨r, q σ H m sm.refl sm sr Agree.refl⟩
  | cons d ds => exact q.elim
theorem jgsv_cons {es : List Expr} {g : DG} {gs : DGs} (h1 : JGv X G W vs e g) (h2 : JGsv X G W vs es gs) (hs : (assignEach (e :: es) X.env).map (·.2) = assign e X.env :: (assignEach es X.env).map (·.2) := by rfl) : JGsv X G W vs (e :: es) (gsCons g gs) :=
  PGs.imp (pgs_cons h1 h2 hs) fun us σ H Q ⟨m, ρ, S, ds, sr, sm, r, q⟩ => by
    cases ds with
    | nil => exact q.elim
    | cons d ds =>
      obtain ⟨v, vr, rfl, a, b⟩ := (show ∃ v r, us = v :: r ∧ SV X.K m H d v ∧ SVs X.K m H ds r from r)
      refine ⟨v, vr, rfl, m, ρ, S, d, sr, sm, a, ?_⟩
      unfold gsCons at q
      dsimp only at q
      cases e1 : g d ρ S with
      | nx ρ1 S1 =>
        rw [e1] at q
        intro σ' H' m' s1 s2 s3 ag
        refine ⟨m', ρ1, S1, ds, s3, s2, b.mono sm s1, ?_⟩
        have q := SQ.step q s1
        dsimp only at q
        cases e2 : gs ds ρ1 S1 with
        | nx ρ2 S2 => rw [e2] at q; exact fun σ2 H2 m2 a b c ag2 => q σ2 H2 m2 a b c (ag.trans ag2)
        | exn x ρ1 S1 => rw [e2] at q; exact q
        | rt d S1 => rw [e2] at q; exact fun v H' m' a b c => (q v H' m' a b c).elim
        | bk ρ1 S1 => rw [e2] at q; exact fun v H' m' a b c => (q v H' m' a b c).elim
        | ct ρ1 S1 => rw [e2] at q; exact fun v H' m' a b c => (q v H' m' a b c).elim
        | bad => rw [e2] at q; exact q.elim
      | exn x ρ1 S1 => rw [e1] at q; exact q
      | rt d S1 => rw [e1] at q; exact q.elim
      | bk ρ1 S1 => rw [e1] at q; exact q.elim
      | ct ρ1 S1 => rw [e1] at q; exact q.elim
      | bad => rw [e1] at q; exact q.elim
theorem jgv_tup {es : List Expr} {k n : Nat} {gs : DGs} (hc : X.calm = true) (h : JGsv X G W vs es gs) (hn : (assignEach es X.env).length = n := by rfl) (hst : (assignEach es X.env).findIdx? (·.1) = none := by rfl) : JGv X G W vs (.Tuple es k pos) (gT n gs) :=
  PG.imp (PG.or (pg_tup hc h hn hst) (pg_lst hc h hn hst)) fun v σ H Q ⟨m, ρ, S, d, sr, sm, r, q⟩ => by
    unfold gT at q
    split at q
    · rename_i xs e1
      split at q
      · rename_i hl
        obtain ⟨p, us, rfl, sv, sq⟩ := seqAt_ok sm e1 r
        rcases sq with sq | sq
        · exact .inr ⟨p, us, rfl, sq, by rw [← sv.len]; exact hl, m, ρ, S, xs, sr, sm, sv, q⟩
        · exact .inl ⟨p, us, rfl, sq, by rw [← sv.len]; exact hl, m, ρ, S, xs, sr, sm, sv, q⟩
      · exact q.elim
    · exact q.elim
/-! ### list comprehensions -/
abbrev W0 : WX := fun _ _ _ _ => False
abbrev JTs (X : Cx) (G : Gx) (W : WX) (es : List Expr) (f : DT) : Prop := PTs X es (tDT X.K G W f)
def dYes : DT := fun _ S => .ok true S
theorem PTs.imp {es : List Expr} {t t' : TT} (h : PTs X es t) (f : ∀ σ H Q, t' σ H Q → t σ H Q) : PTs X es t' := ⟨fun pins s σ H Q I q => h.run pins s σ H Q I (f σ H Q q)⟩
theorem jts_nil : JTs X G W [] dYes := PTs.imp pts_nil fun σ H Q ⟨m, ρ, S, sr, sm, eo⟩ => eo true H m sm.refl sm rfl
theorem jts_one {g : DT} (h : JT X G W e g) : JTs X G W [e] g := pts_one h
def lcD (grd : Store → Bool) (g : DG) (tt : DT) (fe : DE) (n : Nat) (ρ : DEnv) : List D → Store → Out Unit
  | [], S => if grd S = true then .ok () S else .bad
  | d :: ds, S => if grd S = true then (match g d ρ S with
    | .nx ρ1 S1 => (match tt ρ1 S1 with
      | .ok true S2 => (match fe ρ1 S2 with
        | .ok y S3 => (match lstAt S3 n with
          | some acc => if acc.length < 1000000 then lcD grd g tt fe n ρ ds (S3.set n (.lst (acc ++ [y]))) else .bad
          | none => .bad)
        | _ => .bad)
      | .ok false S2 => lcD grd g tt fe n ρ ds S2
      | _ => .bad)
    | _ => .bad) else .bad
def dLc (fi : DI) (g : DG) (tt : DT) (fe : DE) (vs : List Nat) : DE := fun ρ S => (fi ρ S).bind fun src S1 => (lcD src.grd g tt fe S1.length (wipeD ρ vs) src.items (S1 ++ [.lst []])).bind fun _ S2 => .ok (.obj S1.length) S2
theorem lcD_grd {K : PySem.W.Frag} {G : Gx} {α β : Type} {rel : List Addr → Hp → α → β → Prop} {Q : β → Hp → Prop} {Wc : Value → Option Addr → Hp → Prop} {m : List Addr} {H : Hp} {grd : Store → Bool} {g : DG} {tt : DT} {fe : DE} {n : Nat} {ρ : DEnv} {ds : List D} {S : Store} {k : Unit → Store → Out α}
    (h : EO K G rel Q Wc m H ((lcD grd g tt fe n ρ ds S).bind k)) : grd S = true := by
  cases q : grd S with
  | true => rfl
  | false =>
    exfalso
    cases ds with
    | nil => unfold lcD at h; rw [q] at h; exact h
    | cons d ds => unfold lcD at h; rw [q] at h; exact h
theorem lc_core2 {fi : DI} {g : DG} {tt : DT} {fe : DE} {σ : L2.St} {H : Hp} {Q : VK} (h : tD X.K G W (dLc fi g tt fe vs) σ H Q) : tLc (tDI X.K G W fi) (tDGv X.K G W0 vs g) (tDT X.K G W0 tt) (tD X.K G W0 fe) vs σ H Q := by
  obtain ⟨m, ρ, S, sr, sm, eo⟩ := h
  refine ⟨m, ρ, S, sr, sm, EO.then (rel := SrcOk X.K G) eo fun src S1 J H1 m1 st1 sm1 w eo1 => ?_⟩
  intro Dd hD
  have sr1 := sr.mono sm st1
  have st2 : Step m1 H1 (m1 ++ [Dd]) (upd H1 Dd (.lst [])) := Step.new sm1 hD
  have sm2 : Sim X.K G (m1 ++ [Dd]) (S1 ++ [.lst []]) (upd H1 Dd (.lst [])) := sim_lst (ds := []) (vs := []) rfl sm1 hD
  have hmD : (m1 ++ [Dd])[S1.length]? = some Dd := by rw [← sm1.len]; simp
  refine lc_it w (fun i H => ∃ m S, Step (m1 ++ [Dd]) (upd H1 Dd (.lst [])) m H ∧ Sim X.K G m S H ∧ EO X.K G (SV X.K) Q (fun c d H' => W c d σ H') m H ((lcD src.grd g tt fe S1.length (wipeD ρ vs) (src.items.drop i) S).bind fun _ S2 => .ok (.obj S1.length) S2))
    ⟨m1 ++ [Dd], S1 ++ [DO.lst []], sm2.refl, sm2, eo1.step st2⟩ (fun i H _ ⟨m, S, a, b, c⟩ => ⟨m, S, st2.trans a, b, lcD_grd c⟩) ?_ ?_
  · rintro i x H H' hi ⟨m, S, st, sm, eo⟩ hy
    have hgd := lcD_grd eo
    obtain ⟨d, hd, st3, sm3, sv⟩ := hy m S (st2.trans st) sm hgd
    have e0 : src.items.drop i = d :: src.items.drop (i + 1) := by
      rw [List.drop_eq_getElem_cons hi]
      rw [List.getElem?_eq_getElem hi] at hd
      cases hd
      rfl
    rw [e0] at eo
    unfold lcD at eo
    rw [if_pos hgd] at eo
    have srw : SR X.K m H' (wipeD ρ vs) (wipe σ vs) := (sr1.mono sm1 ((st2.trans st).trans st3)).wipe vs
    refine ⟨m, wipeD ρ vs, S, d, srw, sm3, sv, ?_⟩
    have eo := eo.step st3
    cases e1 : g d (wipeD ρ vs) S with
    | nx ρ1 Sa =>
      rw [e1] at eo
      dsimp only at eo
      intro σ4 H4 m4 st4 sm4 sr4 ag
      refine ⟨wipe_agree ag, m4, ρ1, Sa, sr4, sm4, ?_⟩
      have eo := eo.step st4
      cases e2 : tt ρ1 Sa with
      | ok b Sb =>
        rw [e2] at eo
        intro b' H5 m5 st5 sm5 rb
        cases rb
        have eo := eo.step st5
        cases b with
        | true =>
          rw [if_pos rfl]
          dsimp only at eo
          refine ⟨m5, ρ1, Sb, sr4.mono sm4 st5, sm5, ?_⟩
          cases e3 : fe ρ1 Sb with
          | ok y Sc =>
            rw [e3] at eo
            dsimp only at eo
            intro u H6 m6 st6 sm6 ru
            have eo := eo.step st6
            cases e4 : lstAt Sc S1.length with
            | none => rw [e4] at eo; exact eo.elim
            | some acc =>
              rw [e4] at eo
              dsimp only at eo
              by_cases hz : acc.length < 1000000
              · rw [if_pos hz] at eo
                obtain ⟨a', ws, h1, h2, h3⟩ := lstAt_ok sm6 e4
                have stA := (((st.trans st3).trans st4).trans st5).trans st6
                rw [stA.get hmD] at h1
                cases h1
                have stB : Step m6 H6 m6 (upd H6 Dd (.lst (ws ++ [u]))) := Step.put sm6 (stA.get hmD)
                have smB : Sim X.K G m6 (Sc.set S1.length (.lst (acc ++ [y]))) (upd H6 Dd (.lst (ws ++ [u]))) := sm6.put (stA.get hmD) ⟨ws ++ [u], upd_same, (h3.append (SVs.one ru)).mono sm6 stB⟩
                exact ⟨ws, h2, by rw [← h3.len]; exact Nat.lt_of_lt_of_le hz (size6 (Nat.le_refl _)), m6, _, stA.trans stB, smB, eo.step stB⟩
              · rw [if_neg hz] at eo; exact eo.elim
          | exn x Sc => rw [e3] at eo; exact eo.elim
          | bad => rw [e3] at eo; exact eo.elim
        | false =>
          rw [if_neg Bool.false_ne_true]
          exact ⟨m5, Sb, ((st.trans st3).trans st4).trans st5, sm5, eo⟩
      | exn x Sb => rw [e2] at eo; exact eo.elim
      | bad => rw [e2] at eo; exact eo.elim
    | exn x ρ1 Sa => rw [e1] at eo; exact eo.elim
    | rt d Sa => rw [e1] at eo; exact eo.elim
    | bk ρ1 Sa => rw [e1] at eo; exact eo.elim
    | ct ρ1 Sa => rw [e1] at eo; exact eo.elim
    | bad => rw [e1] at eo; exact eo.elim
  · rintro H ⟨m, S, st, sm, eo⟩
    have hgd := lcD_grd eo
    rw [List.drop_length] at eo
    unfold lcD at eo
    rw [if_pos hgd] at eo
    exact eo _ H m sm.refl sm ⟨Dd, rfl, st.get hmD⟩
variable {elt tg iter : Expr} {ifs : List Expr} {scope : Scope} {own : List (Str × Nat)} {fi : DI} {g : DG} {tt : DT} {fe : DE}
theorem je_lc (hc : X.calm = true) (hN : X.N.Nodup) (ok : BlkOk X.N X.env.scope scope own) (hi : JI X G W tg iter fi)
    (hg : ∀ (s : Shared) (H : Hp) (C : Addr) (cl : List (Str × Addr)) (fp : List Addr), JGv (X.blk s H scope (compEnvC scope cl C X.env) fp) G W0 vs tg g) (ht : ∀ (s : Shared) (H : Hp) (C : Addr) (cl : List (Str × Addr)) (fp : List Addr), JTs (X.blk s H scope (compEnvC scope cl C X.env) fp) G W0 ifs tt)
    (he : ∀ (s : Shared) (H : Hp) (C : Addr) (cl : List (Str × Addr)) (fp : List Addr), JE (X.blk s H scope (compEnvC scope cl C X.env) fp) G W0 elt fe) (hs : ∀ x, foldedSetIterable iter X.env x = pure x := by intro _; rfl) (hvs : own.map (·.2) = vs := by rfl) :
    JE X G W (.ListComp elt [⟨tg, iter, ifs, 0⟩] scope pos) (dLc fi g tt fe vs) := by
  subst hvs
  exact PE.imp (pe_lc hc hN hi ok hg ht he hs) fun σ H Q h => lc_core2 h
theorem js_setLc (i : Nat) {y : Str} {py spos : Pos} (hc : X.calm = true) (hN : X.N.Nodup) (ok : BlkOk X.N X.env.scope scope own) (hi : JI X G W tg iter fi)
    (hg : ∀ (s : Shared) (H : Hp) (C : Addr) (cl : List (Str × Addr)) (fp : List Addr), JGv (X.blk s H scope (compEnvC scope cl C X.env) fp) G W0 vs tg g) (ht : ∀ (s : Shared) (H : Hp) (C : Addr) (cl : List (Str × Addr)) (fp : List Addr), JTs (X.blk s H scope (compEnvC scope cl C X.env) fp) G W0 ifs tt)
    (he : ∀ (s : Shared) (H : Hp) (C : Addr) (cl : List (Str × Addr)) (fp : List Addr), JE (X.blk s H scope (compEnvC scope cl C X.env) fp) G W0 elt fe)
    (hsw : swapsWith (.ListComp elt [⟨tg, iter, ifs, 0⟩] scope pos) (some (.Name y py)) spos.line X.env = pure true)
    (hy : X.N[i]? = some y := by rfl) (hyl : X.env.scope.names.lookup y = some .local := by rfl)
    (hs : ∀ x, foldedSetIterable iter X.env x = pure x := by intro _; rfl) (hvs : own.map (·.2) = vs := by rfl) :
    JS X G W (.Assign [.Name y py] (.ListComp elt [⟨tg, iter, ifs, 0⟩] scope pos) spos) (dAsg (dLc fi g tt fe vs) (gN i)) := by
  subst hvs
  exact PS.imp (ps_setLc hc hN hy hyl hsw hi ok hg ht he hs) fun E σ H ⟨m, ρ, S, sr, sm, q⟩ => lc_core2 (W := W) ⟨m, ρ, S, sr, sm, SQ.then (rel := SV X.K) q sr sm fun d S1 v H1 m1 st1 sm1 r1 q1 => q1 _ H1 m1 sm1.refl sm1 ((sr.mono sm st1).set i r1)⟩
end
end DL
set_option Elab.async false
set_option linter.all false
set_option maxRecDepth 100000
set_option maxHeartbeats 2000000
namespace DL
open PySem PySem.Spec PyProof.Rows L2
/-! ### a def's body -/
def startD (n : Nat) (ds : List D) : DEnv := ds.map some ++ List.replicate (n - ds.length) none
def runD (n : Nat) (f : DS) : DF := fun ds S => match f (startD n ds) S with
  | .nx _ S1 => .ok .non S1
  | .rt d S1 => .ok d S1
  | .exn e _ S1 => .exn e S1
  | _ => .bad
abbrev WF (E : XK) : WX := fun cls d _ H => E cls d H
theorem startD_ok {K : PySem.W.Frag} {m : List Addr} {H : Hp} {N : List Str} {ds : List D} {vs : List V} (h : SVs K m H ds vs) : SR K m H (startD N.length ds) (L2.start N vs) := by
  have hl := h.len
  refine ⟨by simp [startD, L2.start, hl], fun i d e => ?_⟩
  unfold startD at e
  unfold L2.start
  by_cases hi : i < ds.length
  · rw [List.getElem?_append_left (by simpa using hi), List.getElem?_map] at e
    rw [List.getElem?_append_left (by simpa [← hl] using hi), List.getElem?_map]
    cases q : ds[i]? with
    | none => rw [q] at e; cases e
    | some d' =>
      rw [q] at e
      cases e
      obtain ⟨v, h1, h2⟩ := h.get q
      exact ⟨v, by rw [h1]; rfl, h2⟩
  · rw [List.getElem?_append_right (by simpa using hi)] at e
    rw [List.getElem?_replicate] at e
    split at e <;> cases e
section
variable {P : Program} {w : World} {K : PySem.W.Frag} {mg : Str → Option Value} {base : Heap} {G : Gx} {x qual : Str} {params : Arguments} {body : List Stmt} {scope : Scope} {f : Addr} {fd : FuncData} {N ps : List Str} {k : Nat} {fb : DS}
theorem body_core {X : Cx} {vs : List V} {H : Hp} {Q : VK} {E : XK} {m : List Addr} {ds : List D} {S : Store} (hN : X.N = N) (sv : SVs X.K m H ds vs) (sm : Sim X.K G m S H) (eo : EO X.K G (SV X.K) Q E m H (runD N.length fb ds S)) :
    tDS X.K G (WF E) fb { nx := fun _ H' => Q .non H', rt := Q } (L2.start N vs) H := by
  refine ⟨m, startD N.length ds, S, startD_ok sv, sm, ?_⟩
  unfold runD at eo
  cases e : fb (startD N.length ds) S with
  | nx ρ S1 => rw [e] at eo; exact fun σ H' m' a b c => eo .non H' m' a b rfl
  | rt d S1 => rw [e] at eo; exact eo
  | exn x ρ S1 => rw [e] at eo; exact fun cls dx σ H' m' a b c d => eo cls dx H' m' a b d
  | bk ρ S1 => rw [e] at eo; exact eo.elim
  | ct ρ S1 => rw [e] at eo; exact eo.elim
  | bad => rw [e] at eo; exact eo.elim
/-- THE RULE for a def; the body's derivation may use that its code object is told by K -/
theorem fnOk_of (F : FunD K x qual params body scope [] [] f fd) (Sc : FnScope N ps scope)
    (hbody : ∀ (cdv : Value) (A : Around) (outer : List Env) (s : Shared) (H : Hp) (E : XK), (∃ (oc : Value) (od : Option Addr) (osl : Array (Option Value)) (fd' : FuncData), K.lookup f = some ⟨oc, od, .func fd', osl⟩ ∧ fd'.code = cdv) → PySem.W.codeIn K cdv qual = true → Room k (A.deeper (envOfC qual scope s.heap.objs.size f cdv)) →
      JSs (cxOf (L2.CX P w) P w K mg base N qual scope f cdv A outer s H E) G (WF E) body fb) : FnOk P w K mg base (L2.CX P w) (k + 1) f fd ps (spD K G ps.length (runD N.length fb)) := by
  obtain ⟨oc, od, dV, kV, doc, pm, an, cdv, ct, osl, rfl, lk, hcd, _, _⟩ := F.ex
  refine fn_of lk hcd Sc (fun vs H Q E h => ?_) fun A outer s H vs Q E hr h => ?_
  · obtain ⟨m, ds, S, hl, sv, _⟩ := h
    rw [← sv.len, hl]
  · obtain ⟨m, ds, S, hl, sv, sm, eo⟩ := h
    exact ⟨_, hbody cdv A outer s H E ⟨oc, od, osl, _, lk, rfl⟩ hcd hr, body_core (X := cxOf (L2.CX P w) P w K mg base N qual scope f cdv A outer s H E) rfl sv sm eo⟩
theorem fnD_of (F : FunD K x qual params body scope [] [] f fd) (Sc : FnScope N ps scope) (hb : Binds K fd ps [])
    (hbody : ∀ (cdv : Value) (A : Around) (outer : List Env) (s : Shared) (H : Hp) (E : XK), (∃ (oc : Value) (od : Option Addr) (osl : Array (Option Value)) (fd' : FuncData), K.lookup f = some ⟨oc, od, .func fd', osl⟩ ∧ fd'.code = cdv) → PySem.W.codeIn K cdv qual = true → Room k (A.deeper (envOfC qual scope s.heap.objs.size f cdv)) →
      JSs (cxOf (L2.CX P w) P w K mg base N qual scope f cdv A outer s H E) G (WF E) body fb) : FnD P w K mg base G (k + 1) f ps.length (runD N.length fb) :=
  ⟨⟨fd, ps, fnOk_of F Sc hbody, hb⟩, F.kp⟩
end
/-! ### a lambda handed to a def that tells refusals by texts -/
def subB (a b : String) : Bool := a == b || b == "WageFault"
def pickD : List (String × Str) → String → Option Str
  | [], _ => none
  | (c, t) :: r, e => if subB e c = true then some t else pickD r e
def dTold (rs : List String) (cs : List (String × Str)) (f : DE) : DE := fun ρ S => match f ρ S with
  | .ok d S1 => .ok d S1
  | .exn e S1 => if e.c ∈ rs then (match pickD cs e.c with
    | some t => .ok (.str t) S1
    | none => .bad) else .bad
  | .bad => .bad
def pickP (K : PySem.W.Frag) (Q : VK) (cls : Value) (H' : Hp) : List (Addr × Str) → Prop
  | [] => False
  | (c, t) :: r => ∃ b, PySem.W.exmOne K cls (.ref c) = some b ∧ (b = true → Q (.str t) H') ∧ (b = false → pickP K Q cls H' r)
def TMany (K : PySem.W.Frag) (cs : List (Addr × Str)) : (XK → Hp → VK → Prop) → Hp → VK → Prop := fun tl H Q => tl (fun cls _ H' => pickP K Q cls H' cs) H Q
/-- the clauses: except x: return 't' -/
inductive TellHs (X : Cx) (sg : Scope) : List ExceptHandler → List (Addr × Str) → Prop
  | nil : TellHs X sg [] []
  | cons {e ret : Str} {C : Addr} {j : Nat} {p4 p5 p6 p7 : Pos} {hds : List ExceptHandler} {l : List (Addr × Str)} (hg : sg.names.lookup e = some .globalImplicit) (hm : X.mg e = some (.ref C)) (hd : (e == ("__debug__" : Str)) = false) (r : TellHs X sg hds l) :
      TellHs X sg (.ExceptHandler (some (.Name e p4)) none [.Return (some (.Constant (.str ret) j p5)) p6] p7 :: hds) ((C, ret) :: l)
section
variable {X : Cx} {G : Gx} {W : WX}
theorem tell_hds {Ng : List Str} {x : Str} {sg : Scope} {g : Addr} {cdg : Value} {s : Shared} {H : Hp} {hds : List ExceptHandler} {l : List (Addr × Str)} (h : TellHs X sg hds l) :
    HdsOk (cxOf C8.CX0 X.prog X.w X.K X.mg X.base Ng x sg g cdg X.A X.stack s H C8.E0).nox hds (l.map fun q => (Value.ref q.1, fun _ _ _ => tRet (tC (.str q.2)))) := by
  induction h with
  | nil => exact .nil
  | cons hg hm hd r ih => exact .cons ⟨hg, hd, .inl hm⟩ (fun a oe cls d pn _ _ => pss_one (ps_ret pe_str)) ih
theorem many_pick {K : PySem.W.Frag} {D : Ends} {Q : VK} (hrt : D.rt = Q) {cls : Value} {d : Option Addr} {σ : L2.St} {H' : Hp} : ∀ {l : List (Addr × Str)}, pickP K Q cls H' l → wMany K (fun _ _ _ _ => False) D (l.map fun q => (Value.ref q.1, fun _ _ _ => tRet (tC (.str q.2)))) cls d σ H'
  | [], h => h
  | (c, t) :: r, ⟨b, h1, h2, h3⟩ => ⟨b, h1, fun hb a _ => by
      show D.rt (.str t) H'
      rw [hrt]; exact h2 hb, fun hb => many_pick hrt (h3 hb)⟩
theorem told_many {Ng : List Str} {x a q : Str} {sg : Scope} {g : Addr} {cdg : Value} {h₀ : ExceptHandler} {hds : List ExceptHandler} {l : List (Addr × Str)} {p1 p2 p3 p8 : Pos} (hh : TellHs X sg (h₀ :: hds) l) (h0 : ∀ f : Addr, (L2.start Ng [V.ref f])[0]? = some (some (V.ref f))) :
    LamX.GivesTo X Ng x sg g cdg [.Try [.Return (some (.Call (.Name a p1) [] [] p2)) p3] (h₀ :: hds) [] [] p8] a q (TMany X.K l) := by
  intro f c' s H Q tl act hc h
  refine ⟨_, pss_one (ps_try_many (X := (cxOf C8.CX0 X.prog X.w X.K X.mg X.base Ng x sg g cdg X.A X.stack s H C8.E0).nox)
      (tb := fun W D σ H => ∃ Ech : XK, (∀ cls d σ' H', Ech cls d H' → W cls d σ' H') ∧ σ[0]? = some (some (.ref f)) ∧ H c' = some (LamX.CodeO c' q) ∧ tl Ech H D.rt)
      rfl rfl LamX.takes0 (fun W pn xe tk _ => ?_) (tell_hds hh)), ?_⟩
  · refine ⟨fun pins s' σ H' D I h' => ?_⟩
    obtain ⟨Ech, hW, h1, h2, h3⟩ := h'
    have hp := act W pn xe Ech p1 p2 tk hW
    have hq := pss_one (ps_ret (pos := p3) hp)
    exact hq.run pins s' σ H' D I ⟨h1, h2, h3⟩
  · exact ⟨fun cls _ H' => pickP X.K Q cls H' l, fun cls d σ' H' hp => many_pick rfl hp, h0 f, hc, h⟩
theorem lam_takes {A : Around} {outer : List Env} {s : Shared} {H : Hp} {E : XK} {scope : Scope} {f c' : Addr} : Takes (LamX.lamCx X A outer s H E scope f c') (WF E) := takes_of rfl rfl rfl rfl
theorem pick_of {K : PySem.W.Frag} {Q : VK} {H' : Hp} {e : String} (cs : List (String × Str)) (hx : ∀ q ∈ cs, PySem.W.exmOne K (.ref (G.cA e)) (.ref (G.cA q.1)) = some (subB e q.1)) {t : Str} (hp : pickD cs e = some t) (hQ : Q (.str t) H') :
    pickP K Q (.ref (G.cA e)) H' (cs.map fun q => (G.cA q.1, q.2)) := by
  induction cs with
  | nil => cases hp
  | cons q r ih =>
    obtain ⟨c, t'⟩ := q
    unfold pickD at hp
    refine ⟨subB e c, hx _ List.mem_cons_self, fun hb => ?_, fun hb => ih (fun q hq => hx q (List.mem_cons_of_mem _ hq)) ?_⟩
    · rw [if_pos hb] at hp
      cases hp
      exact hQ
    · rw [hb, if_neg Bool.false_ne_true] at hp
      exact hp
theorem sim_ext {K : PySem.W.Frag} {m : List Addr} {S : Store} {H H1 : Hp} (sm : Sim K G m S H) (e : LamX.ExtN H H1) (t : LamX.Tabs G.T H1) : Step m H m H1 ∧ Sim K G m S H1 := by
  have st : Step m H m H1 := ⟨⟨[], by simp⟩, sm.nd, fun b o h1 h2 _ => e b o h1 h2⟩
  refine ⟨st, sm.len, sm.nd, fun n o a h1 h2 => ?_, t⟩
  obtain ⟨u, eu, mu⟩ := sm.mem (List.mem_of_getElem? h2)
  refine (sm.at_ n o a h1 h2).mono sm st ?_
  rw [eu]
  exact e a u eu (fun ps z => by subst z; exact mu)
/-- told(lambda: body) -/
theorem je_told {x a : Str} {g c P : Addr} {k : Nat} {pg : Arguments} {sg : Scope} {dV kV doc pm cdv ct oc : Value} {an od : Option Addr} {osl : Array (Option Value)} {Ng : List Str} {h₀ : ExceptHandler} {hds : List ExceptHandler} {rs : List String} {cs : List (String × Str)} {p1 p2 p3 p8 : Pos}
    {params : Arguments} {body : Expr} {scope : Scope} {f : DE} {p lpos pos : Pos} (hm : X.mg x = some (.ref g)) (hk : PySem.W.keepIn X.K (.ref g) = true)
    (lk : X.K.lookup g = some ⟨oc, od, .func (PySem.W.fnOf x x pg [.Try [.Return (some (.Call (.Name a p1) [] [] p2)) p3] (h₀ :: hds) [] [] p8] sg dV kV doc pm an cdv ct), osl⟩) (hcg : PySem.W.codeIn X.K cdv x = true)
    (hb : L2.Binds X.K (PySem.W.fnOf x x pg [.Try [.Return (some (.Call (.Name a p1) [] [] p2)) p3] (h₀ :: hds) [] [] p8] sg dV kV doc pm an cdv ct) [a] []) (Sg : FnScope Ng [a] sg) (hNg : Ng[0]? = some a) (hva : Vis sg a) (h0 : ∀ f : Addr, (L2.start Ng [V.ref f])[0]? = some (some (V.ref f)))
    (hh : TellHs X sg (h₀ :: hds) (cs.map fun q => (G.cA q.1, q.2))) (hx : ∀ e ∈ rs, ∀ q ∈ cs, PySem.W.exmOne X.K (.ref (G.cA e)) (.ref (G.cA q.1)) = some (subB e q.1))
    (TB : LamX.TabB X.base X.mg c P) (hcode : X.env.code = .ref c) (hmT : (P, X.env.qual ++ "<lambda>") ∈ G.T) (hu : ∀ p ∈ G.T, p.1 = P → p.2 = X.env.qual ++ "<lambda>") (hr : Room (k + 2) X.A) (L : LamX.LamS X.env.scope scope) (hdef : defaultsOf params X.env = ([], []))
    (hbind : ∀ (q : Str) (cl : List (Str × Addr)) (pm cv ctv : Value), bindArgs (PySem.W.kla_fn "<lambda>" q params body scope cl pm cv ctv) ⟨[], []⟩ = pure [])
    (hbody : ∀ (A : Around) (outer : List Env) (s : Shared) (H : Hp) (E : XK) (f0 c' : Addr), Room k (A.deeper (LamX.lamEnv X scope s.heap.objs.size f0 c')) → JE (LamX.lamCx X A outer s H E scope f0 c') G (WF E) body f)
    (hg : Gl X x := by rfl) (hdb : (x == ("__debug__" : Str)) = false := by decide) (hd : (a == ("__debug__" : Str)) = false := by decide) (hcd : (a == ("__classdict__" : Str)) = false := by decide) :
    JE X G W (.Call (.Name x p) [.Lambda params body scope lpos] [] pos) (dTold rs cs f) := by
  refine PE.imp (LamX.pe_lamcall (T := G.T) (t := fun E => tD X.K G (WF E) f) hg hm hk lk hcg hb Sg hNg hva (told_many hh h0) TB hcode hmT hu hr L hdef hbind hbody hdb hd hcd) fun σ H Q ⟨m, ρ, S, sr, sm, eo⟩ => ?_
  refine ⟨sm.tabs, fun H1 e1 t1 => ?_⟩
  obtain ⟨st, sm1⟩ := sim_ext sm e1 t1
  refine ⟨m, ρ, S, sr.mono sm st, sm1, ?_⟩
  have eo1 := eo.step st
  unfold dTold at eo1
  cases z : f ρ S with
  | ok d S1 => rw [z] at eo1; exact eo1
  | bad => rw [z] at eo1; exact eo1.elim
  | exn e S1 =>
    rw [z] at eo1
    dsimp only at eo1
    split at eo1
    · rename_i hrs
      split at eo1
      · rename_i t ht
        intro cls dx H' m' a b xo
        rw [show cls = .ref (G.cA e.c) from xo]
        exact pick_of cs (hx e.c hrs) ht (eo1 _ H' m' a b rfl)
      · exact eo1.elim
    · exact eo1.elim
end
/-! ### the law's end -/
theorem sim_none {K : PySem.W.Frag} {G : Gx} {H : Hp} (t : LamX.Tabs G.T H) : Sim K G [] [] H := ⟨rfl, List.nodup_nil, fun n o a h _ => by simp at h, t⟩
theorem ints_svs {K : PySem.W.Frag} {m : List Addr} {H : Hp} : ∀ ns : List Int, SVs K m H (ns.map D.int) (ns.map V.int)
  | [] => rfl
  | n :: ns => ⟨_, _, rfl, rfl, ints_svs ns⟩
/-- the script as it may be met: a fixed list, or the store's first -/
def ScriptAt (ns : List Int) (d : D) (S : Store) : Prop := (d = .fl (ns.map D.int) ∧ S = []) ∨ (d = .obj 0 ∧ S = [.lst (ns.map D.int)])
theorem law_sp {K : PySem.W.Frag} {G : Gx} {F : DF} {H : Hp} {a : Addr} {ns : List Int} (t : LamX.Tabs G.T H) (hS : SqL K H a (ns.map V.int)) (h : ∀ d S, ScriptAt ns d S → ∃ S', F [d] S = .ok (.bl true) S') : spD K G 1 F [.ref a] H (fun v _ => v = .bl true) (fun _ _ _ => False) := by
  have fin : ∀ {m : List Addr} {d : D} {S : Store}, ScriptAt ns d S → EO K G (SV K) (fun v _ => v = .bl true) (fun _ _ _ => False) m H (F [d] S) := fun {m d S} q => by
    obtain ⟨S', e⟩ := h d S q
    rw [e]
    exact fun v H' m' _ _ r => r
  rcases hS with (e | ⟨o, e⟩) | e
  · have sm : Sim K G [a] [.lst (ns.map D.int)] H := ⟨rfl, by simp, fun n o b h1 h2 => by
      cases n with
      | zero => simp at h1 h2; subst h1 h2; exact ⟨_, e, ints_svs ns⟩
      | succ n => simp at h1, t⟩
    exact ⟨[a], [.obj 0], _, rfl, SVs.one ⟨a, rfl, rfl⟩, sm, fin (.inr ⟨rfl, rfl⟩)⟩
  · exact ⟨[], [.fl (ns.map D.int)], [], rfl, SVs.one ⟨a, _, rfl, .inl ⟨o, e⟩, ints_svs ns⟩, sim_none t, fin (.inl ⟨rfl, rfl⟩)⟩
  · exact ⟨[], [.fl (ns.map D.int)], [], rfl, SVs.one ⟨a, _, rfl, .inr e, ints_svs ns⟩, sim_none t, fin (.inl ⟨rfl, rfl⟩)⟩
end DL
set_option Elab.async false
set_option linter.all false
set_option maxRecDepth 100000
set_option maxHeartbeats 2000000
namespace DL
open PySem PySem.Spec PyProof.Rows L2
/-! ### enumerate(tuple) -/
set_option maxHeartbeats 4000000 in
theorem meets_enum1 {v : Value} {o : Obj} {H : Heap → Prop} (B : Begins v o H) :
    Meets (Builtin.«enumerate.__new__» ⟨[.type "enumerate", v], []⟩) (fun _ R s => H s.heap ∧
      R (.ok (.ret (.ref (s.heap.push o).objs.size))) { s with heap := (s.heap.push o).push { cls := .type "enumerate", data := .fields #[.none, .bool false, .ref s.heap.objs.size, rawInt 0, .none, .none] } }) :=
  .of_wp fun prog w A R s h => by
    obtain ⟨hp, g, d, tk, os⟩ := s; obtain ⟨h1, h⟩ := h
    have hsub := sub_enumerate
    have q1 : ∀ {A' : Around} {E : Value → Shared → Prop} {Q : Value → Shared → Prop}, Q (.ref hp.objs.size) ⟨hp.push o, g, d, tk, os⟩ → wpAny (model prog w) A' (pyIter v) Q E ⟨hp, g, d, tk, os⟩ :=
      fun q => B.iter prog w _ _ ⟨hp, g, d, tk, os⟩ _ h1 q
    wp_walk using q1
    refine wpAny_stack_any fun st => wpAny_pure ?_
    split
    · rename_i c _ _ _ _ _
      cases (c == Value.type "enumerate")
      · wp_walk using q1
        exact ⟨_, rfl, h⟩
      · wp_walk using q1
        exact ⟨_, rfl, h⟩
    · wp_walk using q1
      exact ⟨_, rfl, h⟩
section
variable {prog : Program} {w : World} {A : Around} {E : Value → Shared → Prop} {s : Shared}
theorem enum1_begins {v : Value} {o : Obj} {H : Heap → Prop} {Q : Value → Shared → Prop} (B : Begins v o H) (h1 : H s.heap)
    (h : ∀ h', IsEnum h' (s.heap.objs.size + 1) s.heap.objs.size 0 .none → h'.get? s.heap.objs.size = some o → h'.objs.size = s.heap.objs.size + 2 →
      (∀ b o, s.heap.get? b = some o → h'.get? b = some o) → Q (.ref (s.heap.objs.size + 1)) { s with heap := h' }) :
    wpAny (model prog w) A (call (.type "enumerate") [v]) Q E s := by
  refine callType_new F.called_enumerate (by decide) (F.typeCall_enumerate_1 _) (F.newCall_enumerate_1 _) (fun obj => F.args_object_init_2 obj _) F.entry_enumerate_new
    (meets_enum1 B) ⟨h1, ?_⟩
  have hz : (s.heap.push o).objs.size = s.heap.objs.size + 1 := Heap.size_push ..
  show _ ∧ _
  rw [hz]
  have he : IsEnum ((s.heap.push o).push { cls := .type "enumerate", data := .fields #[.none, .bool false, .ref s.heap.objs.size, rawInt 0, .none, .none] }) (s.heap.objs.size + 1) s.heap.objs.size 0 .none := by
    have := Heap.get?_push_size (s.heap.push o) (o := { cls := .type "enumerate", data := .fields #[.none, .bool false, .ref s.heap.objs.size, rawInt 0, .none, .none] }) rfl
    rw [hz] at this; exact this
  refine ⟨⟨_, he, rfl⟩, h _ he (Heap.get?_push_of_some _ (Heap.get?_push_size _ B.free)) (by rw [Heap.size_push, hz]) fun b o x => Heap.get?_push_of_some _ (Heap.get?_push_of_some _ x)⟩
end
/-- the tuple at a, each item in a new pair -/
def ItTe (K : PySem.W.Frag) (a : Addr) : It :=
  ⟨fun i H => ∃ (xs : List V) (x : V), SqT K H a xs ∧ xs[i]? = some x, fun i H v H' => ∃ T x, v = .ref T ∧ H T = none ∧ H' = upd H T (.tup [.int (i : Nat), x]) ∧ ∀ xs, SqT K H a xs → xs[i]? = some x, fun i H => ∃ xs : List V, SqT K H a xs ∧ xs.length = i⟩
theorem turn_enumT {P : Program} {w : World} {K : PySem.W.Frag} {elts : List Expr} {kk : Nat} {tpos : Pos} (a e it : Addr) :
    Turn P w K (.Tuple elts kk tpos) (ItTe K a) [e, it] e (fun i h => (∃ old, IsEnum h e it ((i : Nat) : Int) old) ∧ h.IsTupleIter it a i ∧ e ≠ it ∧ a ≠ it ∧ e ≠ a) where
  mem := by simp
  obj := fun i h st b hb => by
    obtain ⟨⟨old, he⟩, ⟨o, ho, hc, hd⟩, _⟩ := st
    have e' : b = e ∨ b = it := by simpa using hb
    rcases e' with z | z
    · rw [z]; exact ⟨_, he, fun v q => nomatch q⟩
    · rw [z]; exact ⟨o, ho, fun v q => by rw [hd] at q; cases q⟩
  keep := fun i h h' st k => let ⟨⟨old, he⟩, hi, hne⟩ := st; ⟨⟨old, k e (by simp) _ he⟩, hi.at fun o q => k it (by simp) o q, hne⟩
  item := by
    intro X hP hw hK hc i pins s σ H E I hf st hg
    subst hP hw hK
    obtain ⟨⟨old, he⟩, hit, hne, hai, hea⟩ := st
    obtain ⟨xs, x, hq, hx⟩ := hg
    obtain ⟨its, rv, p, hz⟩ := I.tuple hq
    obtain ⟨u, hu, ru⟩ := rv.get hx
    have hel : e < s.heap.objs.size := Heap.lt_size he
    have hil : it < s.heap.objs.size := by obtain ⟨_, q, _⟩ := hit; exact Heap.lt_size q
    have Dr := Draws.tuple (prog := X.prog) (w := X.w) (A := X.A.in1) (show X.A.in1.handled = none from I.ok.hd hc) it a hai its.toArray
    have hlt : i < its.toArray.size := by
      have := (List.getElem?_eq_some_iff.mp hu).1
      simpa using this
    refine wpAny_pyNext_enum_itemD Dr he ⟨hit, p⟩ hlt hne (by simp [hne, hea]) fun y h' tk hy ho hst' hT hsz hk => ?_
    have ey : y = u := by
      have hy : its.toArray[i]? = some y := hy
      have hu' : its.toArray[i]? = some u := by simpa using hu
      rw [hy] at hu'
      exact Option.some.inj hu'
    subst ey
    refine ⟨_, rfl, wpAny_letOwnedTupleGo_enum (s := { s with heap := h', toks := tk + 1 }) ho fun h'' he' sb => ?_⟩
    have hT2 : h''.get? s.heap.objs.size = some { cls := .type "tuple", data := .seq #[.int i tk, y] } := (sb.2 _ (Nat.ne_of_gt hel)).trans hT
    have new : ObjOk X.prog X.w (upd H s.heap.objs.size (.tup [.int (i : Nat), x])) h'' s.heap.objs.size (.tup [.int (i : Nat), x]) :=
      ⟨by show 2 ≤ sizeLine; decide, [.int i tk, y], .cons ⟨_, rfl⟩ (.cons ru .nil), ⟨_, hT2, rfl, _, rfl⟩⟩
    have I1 : Inv X pins σ (upd H s.heap.objs.size (.tup [.int (i : Nat), x])) { s with heap := h'', toks := tk + 1 } :=
      I.turnedNew (ch := [e, it]) (fun b ob hb q => (sb.2 b (fun z => hb (by simp [z]))).trans (hk b ob (fun z => hb (by simp [z])) (fun z => hb (by simp [z])) q)) hf (Nat.le_refl _) new
    refine ⟨.ref s.heap.objs.size, _, I1, rfl, ⟨_, x, rfl, I.hok.fresh (Nat.le_refl _), rfl, fun ys hy => by rw [I.tuple_inj hy hq]; exact hx⟩, ⟨⟨y, ?_⟩, hst'.1.at fun o q => (sb.2 it (Ne.symm hne)).trans q, hne, hai, hea⟩, fun b hb => ?_⟩
    · have e1 : ((i + 1 : Nat) : Int) = (i : Int) + 1 := by omega
      rw [e1]; exact he'
    · have hb' : b < s.heap.objs.size := by
        have e' : b = e ∨ b = it := by simpa using hb
        rcases e' with z | z
        · rw [z]; exact hel
        · rw [z]; exact hil
      rw [upd_ne (Nat.ne_of_lt hb')]
      exact (hf b hb).1
  done := by
    intro X hP hw hK hc i pins s σ H E I hf st hg
    subst hP hw hK
    obtain ⟨⟨old, he⟩, hit, hne, hai, hea⟩ := st
    obtain ⟨xs, hq, hx⟩ := hg
    obtain ⟨its, rv, p, hz⟩ := I.tuple hq
    obtain ⟨f0, f1, f2, f3, f4, f5⟩ := hf it (by simp)
    have hl := rv.length
    have Dr := Draws.tuple (prog := X.prog) (w := X.w) (A := X.A.in1) (show X.A.in1.handled = none from I.ok.hd hc) it a hai its.toArray
    have hit2 : s.heap.IsTupleIter it a its.toArray.size := by
      have : its.toArray.size = i := by simp; omega
      rw [this]; exact hit
    exact wpAny_pyNext_enum_endD Dr he ⟨hit2, p⟩ fun h' eb => ⟨rfl, I.turned (t' := s.toks) (fun b o hb q => eb b o hb q) f0 f1 f3 f4 f5⟩
  self := fun A i s Q E st h => let ⟨⟨_, he⟩, _⟩ := st; wpAny_pyIter_enum he h
theorem walk_enumT {K : PySem.W.Frag} {a : Addr} {xs : List V} : Walk (ItTe K a) xs.length (fun H => SqT K H a xs) (YPair (fun i => some (.int (i : Nat))) (fun i => xs[i]?)) := by
  refine ⟨fun i _ hi q => ⟨xs, xs[i], q, by simp [hi]⟩, fun _ q => ⟨xs, q, rfl⟩, fun i H v H' _ q y => ?_⟩
  obtain ⟨T, x, h1, h2, h3, h4⟩ := y
  exact ⟨T, .int (i : Nat), x, h1, h2, h3, rfl, h4 xs q⟩
/-- enumerate of a list or a tuple, by its value -/
theorem pi_enumS {X : Cx} {e : Expr} {ta : TA} {p pos tpos : Pos} {elts : List Expr} {kk : Nat} (hg : Gl X "enumerate") (hm : X.mg "enumerate" = none) (ha : PA X [e] ta) (hs : starEach [e] X.env = [(false, eval e X.env)] := by rfl) :
    PI X (.Tuple elts kk tpos) (.Call (.Name "enumerate" p) [e] [] pos) (fun σ H R => ta σ H fun vs H1 => ∃ a, vs = [.ref a] ∧ ((∃ xs, SqL X.K H1 a xs) ∧ R (Ite X.K a) H1 ∨ (∃ xs, SqT X.K H1 a xs) ∧ R (ItTe X.K a) H1)) := by
  refine ⟨fun pins s σ H R I h => ?_⟩
  refine Call_ (ld_blt I hg hm boot_enumerate (PyProof.Rows.callWith_type1 (thn (ha.run pos pins s σ H _ I h) fun us s1 ⟨vs, H1, I1, r1, q1⟩ => ?_) hs rfl))
  obtain ⟨a, ex, hq⟩ := q1
  subst ex
  cases r1 with
  | cons r rr =>
    cases rr
    cases r
    rcases hq with ⟨⟨xs, hq⟩, q⟩ | ⟨⟨xs, hq⟩, q⟩
    · obtain ⟨its, rv, p', hz⟩ := I1.list hq
      refine call_enumerate_list p'.isList fun h' he hit hsz hk => wpAny_pyIter_enum he ?_
      have I2 : Inv X pins σ H1 { s1 with heap := h' } := I1.kept (t' := s1.toks) hk
      refine ⟨s1.heap.objs.size + 1, [s1.heap.objs.size + 1, s1.heap.objs.size], _, _, H1, rfl, I2, turn_enum a (s1.heap.objs.size + 1) s1.heap.objs.size, ⟨⟨.none, he⟩, hit, Nat.succ_ne_self _⟩, fun b hb => ?_, q⟩
      have e' : b = s1.heap.objs.size + 1 ∨ b = s1.heap.objs.size := by simpa using hb
      have hle : s1.heap.objs.size ≤ b := by
        rcases e' with z | z
        · rw [z]; exact Nat.le_add_right _ _
        · rw [z]; exact Nat.le_refl _
      exact I1.fpOk hle (I1.hok.fresh hle)
    · obtain ⟨its, rv, p', hz⟩ := I1.tuple hq
      have hlt : a < s1.heap.objs.size := by
        obtain ⟨o, ho, _⟩ := p'
        exact Heap.lt_size ho
      refine enum1_begins (begins_tuple a its.toArray) p' fun h' he hit hsz hk => wpAny_pyIter_enum he ?_
      have I2 : Inv X pins σ H1 { s1 with heap := h' } := I1.kept (t' := s1.toks) hk
      refine ⟨s1.heap.objs.size + 1, [s1.heap.objs.size + 1, s1.heap.objs.size], _, _, H1, rfl, I2, turn_enumT a (s1.heap.objs.size + 1) s1.heap.objs.size, ⟨⟨.none, he⟩, ⟨_, hit, rfl, rfl⟩, Nat.succ_ne_self _, Nat.ne_of_lt hlt, Ne.symm (Nat.ne_of_lt (Nat.lt_succ_of_lt hlt))⟩, fun b hb => ?_, q⟩
      have e' : b = s1.heap.objs.size + 1 ∨ b = s1.heap.objs.size := by simpa using hb
      have hle : s1.heap.objs.size ≤ b := by
        rcases e' with z | z
        · rw [z]; exact Nat.le_add_right _ _
        · rw [z]; exact Nat.le_refl _
      exact I1.fpOk hle (I1.hok.fresh hle)
def enumL (xs : List D) : List D := (List.range xs.length).map fun (i : Nat) => D.tup [.int (i : Int), xs.getD i .non]
def enumOf (d : D) (S : Store) : Option (Src × Store) := (srcOf d S).map fun q => (⟨enumL q.1.items, q.1.grd⟩, q.2)
def diEnum (fe : DE) : DI := fun ρ S => (fe ρ S).bind fun d S1 => optO (enumOf d S1)
theorem enumL_len (xs : List D) : (enumL xs).length = xs.length := by simp [enumL]
theorem enumL_at {xs : List D} {i : Nat} (h : i < xs.length) : (enumL xs)[i]? = some (.tup [.int (i : Int), xs[i]]) := by
  simp [enumL, h]
section
variable {K : PySem.W.Frag} {G : Gx} {m1 : List Addr} {H1 : Hp} {S1 : Store}
/-- pairs of a place and what is read there -/
theorem srcOk_pair {xs : List D} {grd : Store → Bool} {J : It} (R : Hp → List V → Prop) (hw : ∀ ws : List V, Walk J ws.length (fun H => R H ws) (YPair (fun i => some (.int (i : Nat))) (fun i => ws[i]?)))
    (key : ∀ H' m' S', Step m1 H1 m' H' → Sim K G m' S' H' → grd S' = true → ∃ us : List V, R H' us ∧ SVs K m' H' xs us) : SrcOk K G m1 H1 ⟨enumL xs, grd⟩ J := by
  show Walk J (enumL xs).length _ _
  rw [enumL_len]
  refine ⟨fun i H' hi ⟨m', S', st, sm', hg⟩ => ?_, fun H' ⟨m', S', st, sm', hg⟩ => ?_, fun i H' x H'' hi _ hy m' S' st sm' hg => ?_⟩
  · obtain ⟨us, h2, h3⟩ := key H' m' S' st sm' hg
    exact (hw us).goes i H' (by rw [← h3.len]; exact hi) h2
  · obtain ⟨us, h2, h3⟩ := key H' m' S' st sm' hg
    rw [h3.len]
    exact (hw us).stops H' h2
  · obtain ⟨us, h2, h3⟩ := key H' m' S' st sm' hg
    obtain ⟨T, a, b, rfl, hT, rfl, ea, eb⟩ := (hw us).yields i H' x H'' (by rw [← h3.len]; exact hi) h2 hy
    cases ea
    obtain ⟨v, h4, h5⟩ := h3.get (i := i) (d := xs[i]) (by simp [hi])
    have eb : us[i]? = some b := eb
    rw [eb] at h4; cases h4
    exact ⟨_, enumL_at hi, Step.beside sm' hT, sm'.beside hT, sv_tup (ds := [.int (i : Int), xs[i]]) ⟨_, _, rfl, rfl, SVs.one h5⟩ sm' hT⟩
end
section
variable {X : Cx} {G : Gx} {W : WX} {e : Expr} {fe : DE} {p pos tpos : Pos} {elts : List Expr} {kk : Nat}
theorem ji_enum (hm : X.mg "enumerate" = none) (he : JE X G W e fe) (hg : Gl X "enumerate" := by rfl) (hs : starEach [e] X.env = [(false, eval e X.env)] := by rfl) : JI X G W (.Tuple elts kk tpos) (.Call (.Name "enumerate" p) [e] [] pos) (diEnum fe) :=
  PI.imp (pi_enumS hg hm (ja_cons he ja_nil hs) hs) fun σ H R ⟨m, ρ, S, sr, sm, eo⟩ => ⟨m, ρ, S, sr, sm, by
    unfold daCons daNil
    unfold diEnum at eo
    cases z : fe ρ S with
    | bad => rw [z] at eo; exact eo.elim
    | exn x S1 => rw [z] at eo; exact eo
    | ok d S1 =>
      rw [z] at eo
      simp only [Out.bind_ok] at eo ⊢
      intro vs H1 m1 st1 sm1 r1
      have eo1 := eo.step st1
      obtain ⟨v, rfl, rv⟩ := svs1 r1
      cases d with
      | tup xs =>
        obtain ⟨a, us, rfl, q, r⟩ := rv
        exact ⟨a, rfl, .inr ⟨⟨us, q⟩, eo1 _ H1 m1 sm1.refl sm1 (srcOk_pair (fun H ws => SqT X.K H a ws) (fun ws => walk_enumT) fun H' m' S' st _ _ => ⟨us, sqT_step sm1 st q, r.mono sm1 st⟩)⟩⟩
      | fl xs =>
        obtain ⟨a, us, rfl, q, r⟩ := rv
        exact ⟨a, rfl, .inl ⟨⟨us, q.l⟩, eo1 _ H1 m1 sm1.refl sm1 (srcOk_pair (fun H ws => SqL X.K H a ws) (fun ws => walk_enum) fun H' m' S' st _ _ => ⟨us, (sqF_step sm1 st q).l, r.mono sm1 st⟩)⟩⟩
      | obj n =>
        unfold enumOf srcOf at eo1
        dsimp only at eo1
        cases z : lstAt S1 n with
        | none => rw [z] at eo1; exact eo1.elim
        | some xs =>
          rw [z] at eo1
          obtain ⟨a, rfl, hm⟩ := rv
          obtain ⟨a', us, h1, h2, h3⟩ := lstAt_ok sm1 z
          rw [hm] at h1; cases h1
          refine ⟨a, rfl, .inl ⟨⟨us, SqL.of h2⟩, eo1 _ H1 m1 sm1.refl sm1 (srcOk_pair (fun H ws => SqL X.K H a ws) (fun ws => walk_enum) fun H' m' S' st sm' hg => ?_)⟩⟩
          obtain ⟨a', us, h1, h2, h3⟩ := lstAt_ok sm' (grdL_ok hg)
          rw [st.get hm] at h1; cases h1
          exact ⟨us, SqL.of h2, h3⟩
      | _ => exact eo1.elim⟩
end
end DL
set_option Elab.async false
set_option linter.all false
set_option maxRecDepth 100000
set_option maxHeartbeats 2000000
namespace DL
open PySem PySem.Spec PyProof.Rows L2
theorem Out.bind_assoc {α β γ : Type} (o : Out α) (f : α → Store → Out β) (g : β → Store → Out γ) : (o.bind f).bind g = o.bind fun a S => (f a S).bind g := by
  cases o <;> rfl
section
variable {K : PySem.W.Frag} {G : Gx} {W : WX} {vs : List Nat}
/-- the turns of a comprehension's loop -/
theorem lc_turns {src : Src} {J : It} {g : DG} {tt : DT} {fe : DE} {σ : L2.St} {ρ : DEnv} {m1 m0 : List Addr} {S1 S0 : Store} {H1 H0 : Hp} {n : Nat} {Dd : Addr} {α β : Type} {rel : List Addr → Hp → α → β → Prop} {Q : β → Hp → Prop} {Wc : Value → Option Addr → Hp → Prop} {k : Unit → Store → Out α} {Qd : Hp → Prop}
    (w : SrcOk K G m1 H1 src J) (sm1 : Sim K G m1 S1 H1) (sr1 : SR K m1 H1 ρ σ) (st0 : Step m1 H1 m0 H0) (sm0 : Sim K G m0 S0 H0) (hmD : m0[n]? = some Dd) (eo : EO K G rel Q Wc m0 H0 ((lcD src.grd g tt fe n (wipeD ρ vs) src.items S0).bind k))
    (hQd : ∀ m S H, Step m0 H0 m H → Sim K G m S H → EO K G rel Q Wc m H (k () S) → Qd H) :
    ∃ W' : Nat → Nat → Hp → Prop, (∃ mm, W' 0 mm H0) ∧ ∀ i mm H, W' i mm H → (J.stop i H ∧ Qd H) ∨ (J.go i H ∧ ∃ Nx : Hp → Prop, (∀ H', Nx H' → ∃ m', m' < mm ∧ W' (i + 1) m' H') ∧ ∀ x H', J.yld i H x H' → tDGv K G W0 vs g x (wipe σ vs) H' fun σ2 H2 => wipe σ2 vs = wipe σ vs ∧ tDT K G W0 tt σ2 H2 fun b H3 =>
      if b = true then tD K G W0 fe σ2 H3 fun y H4 => ∃ acc, H4 Dd = some (.lst acc) ∧ acc.length < sizeLine ∧ Nx (upd H4 Dd (.lst (acc ++ [y]))) else Nx H3) := by
  have turn : ∀ i x H H', i < src.items.length → (∃ m S, Step m0 H0 m H ∧ Sim K G m S H ∧ EO K G rel Q Wc m H ((lcD src.grd g tt fe n (wipeD ρ vs) (src.items.drop i) S).bind k)) → (∀ m' S', Step m1 H1 m' H → Sim K G m' S' H → src.grd S' = true → ∃ d, src.items[i]? = some d ∧ Step m' H m' H' ∧ Sim K G m' S' H' ∧ SV K m' H' d x) →
      tDGv K G W0 vs g x (wipe σ vs) H' fun σ2 H2 => wipe σ2 vs = wipe σ vs ∧ tDT K G W0 tt σ2 H2 fun b H3 =>
        if b = true then tD K G W0 fe σ2 H3 fun y H4 => ∃ acc, H4 Dd = some (.lst acc) ∧ acc.length < sizeLine ∧ (∃ m S, Step m0 H0 m (upd H4 Dd (.lst (acc ++ [y]))) ∧ Sim K G m S (upd H4 Dd (.lst (acc ++ [y]))) ∧ EO K G rel Q Wc m (upd H4 Dd (.lst (acc ++ [y]))) ((lcD src.grd g tt fe n (wipeD ρ vs) (src.items.drop (i + 1)) S).bind k))
        else (∃ m S, Step m0 H0 m H3 ∧ Sim K G m S H3 ∧ EO K G rel Q Wc m H3 ((lcD src.grd g tt fe n (wipeD ρ vs) (src.items.drop (i + 1)) S).bind k)) := by
    rintro i x H H' hi ⟨m, S, st, sm, eo⟩ hy
    have hgd := lcD_grd eo
    obtain ⟨d, hd, st3, sm3, sv⟩ := hy m S (st0.trans st) sm hgd
    have e0 : src.items.drop i = d :: src.items.drop (i + 1) := by
      rw [List.drop_eq_getElem_cons hi]
      rw [List.getElem?_eq_getElem hi] at hd
      cases hd
      rfl
    rw [e0] at eo
    unfold lcD at eo
    rw [if_pos hgd] at eo
    have srw : SR K m H' (wipeD ρ vs) (wipe σ vs) := (sr1.mono sm1 ((st0.trans st).trans st3)).wipe vs
    refine ⟨m, wipeD ρ vs, S, d, srw, sm3, sv, ?_⟩
    have eo := eo.step st3
    cases e1 : g d (wipeD ρ vs) S with
    | nx ρ1 Sa =>
      rw [e1] at eo
      dsimp only at eo
      intro σ4 H4 m4 st4 sm4 sr4 ag
      refine ⟨wipe_agree ag, m4, ρ1, Sa, sr4, sm4, ?_⟩
      have eo := eo.step st4
      cases e2 : tt ρ1 Sa with
      | ok b Sb =>
        rw [e2] at eo
        intro b' H5 m5 st5 sm5 rb
        cases rb
        have eo := eo.step st5
        cases b with
        | true =>
          rw [if_pos rfl]
          dsimp only at eo
          refine ⟨m5, ρ1, Sb, sr4.mono sm4 st5, sm5, ?_⟩
          cases e3 : fe ρ1 Sb with
          | ok y Sc =>
            rw [e3] at eo
            dsimp only at eo
            intro u H6 m6 st6 sm6 ru
            have eo := eo.step st6
            cases e4 : lstAt Sc n with
            | none => rw [e4] at eo; exact eo.elim
            | some acc =>
              rw [e4] at eo
              dsimp only at eo
              by_cases hz : acc.length < 1000000
              · rw [if_pos hz] at eo
                obtain ⟨a', ws, h1, h2, h3⟩ := lstAt_ok sm6 e4
                have stA := (((st.trans st3).trans st4).trans st5).trans st6
                rw [stA.get hmD] at h1
                cases h1
                have stB : Step m6 H6 m6 (upd H6 Dd (.lst (ws ++ [u]))) := Step.put sm6 (stA.get hmD)
                have smB : Sim K G m6 (Sc.set n (.lst (acc ++ [y]))) (upd H6 Dd (.lst (ws ++ [u]))) := sm6.put (stA.get hmD) ⟨ws ++ [u], upd_same, (h3.append (SVs.one ru)).mono sm6 stB⟩
                exact ⟨ws, h2, by rw [← h3.len]; exact Nat.lt_of_lt_of_le hz (size6 (Nat.le_refl _)), m6, _, stA.trans stB, smB, eo.step stB⟩
              · rw [if_neg hz] at eo; exact eo.elim
          | exn x Sc => rw [e3] at eo; exact eo.elim
          | bad => rw [e3] at eo; exact eo.elim
        | false =>
          rw [if_neg Bool.false_ne_true]
          exact ⟨m5, Sb, ((st.trans st3).trans st4).trans st5, sm5, eo⟩
      | exn x Sb => rw [e2] at eo; exact eo.elim
      | bad => rw [e2] at eo; exact eo.elim
    | exn x ρ1 Sa => rw [e1] at eo; exact eo.elim
    | rt d Sa => rw [e1] at eo; exact eo.elim
    | bk ρ1 Sa => rw [e1] at eo; exact eo.elim
    | ct ρ1 Sa => rw [e1] at eo; exact eo.elim
    | bad => rw [e1] at eo; exact eo.elim
  refine ⟨fun i mm H => mm = src.items.length - i ∧ i ≤ src.items.length ∧ ∃ m S, Step m0 H0 m H ∧ Sim K G m S H ∧ EO K G rel Q Wc m H ((lcD src.grd g tt fe n (wipeD ρ vs) (src.items.drop i) S).bind k), ⟨src.items.length, by simp, Nat.zero_le _, m0, S0, sm0.refl, sm0, eo⟩, ?_⟩
  rintro i mm H ⟨rfl, hi, m, S, st, sm, eo⟩
  have hG : ∃ m' S', Step m1 H1 m' H ∧ Sim K G m' S' H ∧ src.grd S' = true := ⟨m, S, st0.trans st, sm, lcD_grd eo⟩
  by_cases hlt : i < src.items.length
  · refine .inr ⟨w.goes i H hlt hG, fun H => ∃ m S, Step m0 H0 m H ∧ Sim K G m S H ∧ EO K G rel Q Wc m H ((lcD src.grd g tt fe n (wipeD ρ vs) (src.items.drop (i + 1)) S).bind k), fun H' p' => ⟨src.items.length - (i + 1), by omega, rfl, hlt, p'⟩, fun x H' y => turn i x H H' hlt ⟨m, S, st, sm, eo⟩ (w.yields i H x H' hlt hG y)⟩
  · have e : i = src.items.length := by omega
    subst e
    refine .inl ⟨w.stops H hG, hQd m S H st sm ?_⟩
    have hgd := lcD_grd eo
    rw [List.drop_length] at eo
    unfold lcD at eo
    rw [if_pos hgd] at eo
    exact eo
end
def lcD2 (grd : Store → Bool) (g : DG) (tt : DT) (fi1 : DI) (g1 : DG) (tt1 : DT) (fe : DE) (vs1 : List Nat) (n : Nat) (ρ : DEnv) : List D → Store → Out Unit
  | [], S => if grd S = true then .ok () S else .bad
  | d :: ds, S => if grd S = true then (match g d ρ S with
    | .nx ρ1 S1 => (match tt ρ1 S1 with
      | .ok true S2 => (match fi1 ρ1 S2 with
        | .ok src S3 => (lcD src.grd g1 tt1 fe n (wipeD ρ1 vs1) src.items S3).bind fun _ S4 => lcD2 grd g tt fi1 g1 tt1 fe vs1 n ρ ds S4
        | _ => .bad)
      | .ok false S2 => lcD2 grd g tt fi1 g1 tt1 fe vs1 n ρ ds S2
      | _ => .bad)
    | _ => .bad) else .bad
def dLc2 (fi : DI) (g : DG) (tt : DT) (fi1 : DI) (g1 : DG) (tt1 : DT) (fe : DE) (vs vs1 : List Nat) : DE := fun ρ S => (fi ρ S).bind fun src S1 => (lcD2 src.grd g tt fi1 g1 tt1 fe vs1 S1.length (wipeD ρ vs) src.items (S1 ++ [.lst []])).bind fun _ S2 => .ok (.obj S1.length) S2
theorem lcD2_grd {K : PySem.W.Frag} {G : Gx} {α β : Type} {rel : List Addr → Hp → α → β → Prop} {Q : β → Hp → Prop} {Wc : Value → Option Addr → Hp → Prop} {m : List Addr} {H : Hp} {grd : Store → Bool} {g g1 : DG} {tt tt1 : DT} {fi1 : DI} {fe : DE} {vs1 : List Nat} {n : Nat} {ρ : DEnv} {ds : List D} {S : Store} {k : Unit → Store → Out α}
    (h : EO K G rel Q Wc m H ((lcD2 grd g tt fi1 g1 tt1 fe vs1 n ρ ds S).bind k)) : grd S = true := by
  cases q : grd S with
  | true => rfl
  | false =>
    exfalso
    cases ds with
    | nil => unfold lcD2 at h; rw [q] at h; exact h
    | cons d ds => unfold lcD2 at h; rw [q] at h; exact h
section
variable {X : Cx} {G : Gx} {W : WX} {vs vs1 : List Nat} {pos : Pos}
theorem lc2_core3 {fi fi1 : DI} {g g1 : DG} {tt tt1 : DT} {fe : DE} {σ : L2.St} {H : Hp} {Q : VK} (h : tD X.K G W (dLc2 fi g tt fi1 g1 tt1 fe vs vs1) σ H Q) :
    tLc2 (tDI X.K G W fi) (tDGv X.K G W0 vs g) (tDT X.K G W0 tt) (tDI X.K G W0 fi1) (tDGv X.K G W0 vs1 g1) (tDT X.K G W0 tt1) (tD X.K G W0 fe) vs vs1 σ H Q := by
  obtain ⟨m, ρ, S, sr, sm, eo⟩ := h
  refine ⟨m, ρ, S, sr, sm, EO.then (rel := SrcOk X.K G) eo fun src S1 J H1 m1 st1 sm1 w eo1 => ?_⟩
  intro Dd hD
  have sr1 := sr.mono sm st1
  have st2 : Step m1 H1 (m1 ++ [Dd]) (upd H1 Dd (.lst [])) := Step.new sm1 hD
  have sm2 : Sim X.K G (m1 ++ [Dd]) (S1 ++ [.lst []]) (upd H1 Dd (.lst [])) := sim_lst (ds := []) (vs := []) rfl sm1 hD
  have hmD : (m1 ++ [Dd])[S1.length]? = some Dd := by rw [← sm1.len]; simp
  let Pv : Nat → Hp → Prop := fun i H => ∃ m S, Step (m1 ++ [Dd]) (upd H1 Dd (.lst [])) m H ∧ Sim X.K G m S H ∧ EO X.K G (SV X.K) Q (fun c d H' => W c d σ H') m H ((lcD2 src.grd g tt fi1 g1 tt1 fe vs1 S1.length (wipeD ρ vs) (src.items.drop i) S).bind fun _ S2 => .ok (.obj S1.length) S2)
  refine ⟨fun i mm H => mm = src.items.length - i ∧ i ≤ src.items.length ∧ Pv i H, ⟨src.items.length, by simp, Nat.zero_le _, m1 ++ [Dd], S1 ++ [DO.lst []], sm2.refl, sm2, eo1.step st2⟩, ?_⟩
  rintro i mm H ⟨rfl, hi, m, S, st, sm, eo⟩
  have hgd := lcD2_grd eo
  have hG : ∃ m' S', Step m1 H1 m' H ∧ Sim X.K G m' S' H ∧ src.grd S' = true := ⟨m, S, st2.trans st, sm, hgd⟩
  by_cases hlt : i < src.items.length
  · refine .inr ⟨w.goes i H hlt hG, Pv (i + 1), fun H' p' => ⟨src.items.length - (i + 1), by omega, rfl, hlt, p'⟩, fun x H' y => ?_⟩
    obtain ⟨d, hd, st3, sm3, sv⟩ := w.yields i H x H' hlt hG y m S (st2.trans st) sm hgd
    have e0 : src.items.drop i = d :: src.items.drop (i + 1) := by
      rw [List.drop_eq_getElem_cons hlt]
      rw [List.getElem?_eq_getElem hlt] at hd
      cases hd
      rfl
    rw [e0] at eo
    unfold lcD2 at eo
    rw [if_pos hgd] at eo
    have srw : SR X.K m H' (wipeD ρ vs) (wipe σ vs) := (sr1.mono sm1 ((st2.trans st).trans st3)).wipe vs
    refine ⟨m, wipeD ρ vs, S, d, srw, sm3, sv, ?_⟩
    have eo := eo.step st3
    cases e1 : g d (wipeD ρ vs) S with
    | nx ρ1 Sa =>
      rw [e1] at eo
      dsimp only at eo
      intro σ4 H4 m4 st4 sm4 sr4 ag
      refine ⟨wipe_agree ag, m4, ρ1, Sa, sr4, sm4, ?_⟩
      have eo := eo.step st4
      cases e2 : tt ρ1 Sa with
      | ok b Sb =>
        rw [e2] at eo
        intro b' H5 m5 st5 sm5 rb
        cases rb
        have eo := eo.step st5
        cases b with
        | true =>
          rw [if_pos rfl]
          dsimp only at eo
          refine ⟨m5, ρ1, Sb, sr4.mono sm4 st5, sm5, ?_⟩
          cases e3 : fi1 ρ1 Sb with
          | ok src1 Sc =>
            rw [e3] at eo
            dsimp only at eo
            intro J1 H6 m6 st6 sm6 w1
            have eo := eo.step st6
            rw [Out.bind_assoc] at eo
            have stA := (((st.trans st3).trans st4).trans st5).trans st6
            exact lc_turns w1 sm6 (sr4.mono sm4 (st5.trans st6)) sm6.refl sm6 (stA.get hmD) eo fun m7 S7 H7 st7 sm7 eo7 => ⟨m7, S7, stA.trans st7, sm7, eo7⟩
          | exn x Sc => rw [e3] at eo; exact eo.elim
          | bad => rw [e3] at eo; exact eo.elim
        | false =>
          rw [if_neg Bool.false_ne_true]
          exact ⟨m5, Sb, ((st.trans st3).trans st4).trans st5, sm5, eo⟩
      | exn x Sb => rw [e2] at eo; exact eo.elim
      | bad => rw [e2] at eo; exact eo.elim
    | exn x ρ1 Sa => rw [e1] at eo; exact eo.elim
    | rt d Sa => rw [e1] at eo; exact eo.elim
    | bk ρ1 Sa => rw [e1] at eo; exact eo.elim
    | ct ρ1 Sa => rw [e1] at eo; exact eo.elim
    | bad => rw [e1] at eo; exact eo.elim
  · have e : i = src.items.length := by omega
    subst e
    rw [List.drop_length] at eo
    unfold lcD2 at eo
    rw [if_pos hgd] at eo
    exact .inl ⟨w.stops H hG, eo _ H m sm.refl sm ⟨Dd, rfl, st.get hmD⟩⟩
variable {elt tg iter tg1 iter1 : Expr} {ifs ifs1 : List Expr} {scope : Scope} {own : List (Str × Nat)} {fi fi1 : DI} {g g1 : DG} {tt tt1 : DT} {fe : DE}
theorem je_lc2 (hc : X.calm = true) (hN : X.N.Nodup) (ok : BlkOk X.N X.env.scope scope own) (hv : ∀ i ∈ vs1, i ∈ vs) (hi : JI X G W tg iter fi)
    (hg : ∀ (s : Shared) (H : Hp) (C : Addr) (cl : List (Str × Addr)) (fp : List Addr), JGv (X.blk s H scope (compEnvC scope cl C X.env) fp) G W0 vs tg g) (ht : ∀ (s : Shared) (H : Hp) (C : Addr) (cl : List (Str × Addr)) (fp : List Addr), JTs (X.blk s H scope (compEnvC scope cl C X.env) fp) G W0 ifs tt)
    (hi1 : ∀ (s : Shared) (H : Hp) (C : Addr) (cl : List (Str × Addr)) (fp : List Addr), JI (X.blk s H scope (compEnvC scope cl C X.env) fp) G W0 tg1 iter1 fi1)
    (hg1 : ∀ (s : Shared) (H : Hp) (C : Addr) (cl : List (Str × Addr)) (fp : List Addr), JGv (X.blk s H scope (compEnvC scope cl C X.env) fp) G W0 vs1 tg1 g1) (ht1 : ∀ (s : Shared) (H : Hp) (C : Addr) (cl : List (Str × Addr)) (fp : List Addr), JTs (X.blk s H scope (compEnvC scope cl C X.env) fp) G W0 ifs1 tt1)
    (he : ∀ (s : Shared) (H : Hp) (C : Addr) (cl : List (Str × Addr)) (fp : List Addr), JE (X.blk s H scope (compEnvC scope cl C X.env) fp) G W0 elt fe) (hs : ∀ x, foldedSetIterable iter X.env x = pure x := by intro _; rfl) (hs1 : ∀ env x, foldedSetIterable iter1 env x = pure x := by intro _ _; rfl) (hvs : own.map (·.2) = vs := by rfl) :
    JE X G W (.ListComp elt [⟨tg, iter, ifs, 0⟩, ⟨tg1, iter1, ifs1, 0⟩] scope pos) (dLc2 fi g tt fi1 g1 tt1 fe vs vs1) := by
  subst hvs
  exact PE.imp (pe_lc2 hc hN hi ok hv hg ht hi1 hg1 ht1 he hs hs1) fun σ H Q h => lc2_core3 h
theorem js_setLc2 (i : Nat) {y : Str} {py spos : Pos} (hc : X.calm = true) (hN : X.N.Nodup) (ok : BlkOk X.N X.env.scope scope own) (hv : ∀ i ∈ vs1, i ∈ vs) (hi : JI X G W tg iter fi)
    (hg : ∀ (s : Shared) (H : Hp) (C : Addr) (cl : List (Str × Addr)) (fp : List Addr), JGv (X.blk s H scope (compEnvC scope cl C X.env) fp) G W0 vs tg g) (ht : ∀ (s : Shared) (H : Hp) (C : Addr) (cl : List (Str × Addr)) (fp : List Addr), JTs (X.blk s H scope (compEnvC scope cl C X.env) fp) G W0 ifs tt)
    (hi1 : ∀ (s : Shared) (H : Hp) (C : Addr) (cl : List (Str × Addr)) (fp : List Addr), JI (X.blk s H scope (compEnvC scope cl C X.env) fp) G W0 tg1 iter1 fi1)
    (hg1 : ∀ (s : Shared) (H : Hp) (C : Addr) (cl : List (Str × Addr)) (fp : List Addr), JGv (X.blk s H scope (compEnvC scope cl C X.env) fp) G W0 vs1 tg1 g1) (ht1 : ∀ (s : Shared) (H : Hp) (C : Addr) (cl : List (Str × Addr)) (fp : List Addr), JTs (X.blk s H scope (compEnvC scope cl C X.env) fp) G W0 ifs1 tt1)
    (he : ∀ (s : Shared) (H : Hp) (C : Addr) (cl : List (Str × Addr)) (fp : List Addr), JE (X.blk s H scope (compEnvC scope cl C X.env) fp) G W0 elt fe)
    (hsw : swapsWith (.ListComp elt [⟨tg, iter, ifs, 0⟩, ⟨tg1, iter1, ifs1, 0⟩] scope pos) (some (.Name y py)) spos.line X.env = pure true)
    (hy : X.N[i]? = some y := by rfl) (hyl : X.env.scope.names.lookup y = some .local := by rfl)
    (hs : ∀ x, foldedSetIterable iter X.env x = pure x := by intro _; rfl) (hs1 : ∀ env x, foldedSetIterable iter1 env x = pure x := by intro _ _; rfl) (hvs : own.map (·.2) = vs := by rfl) :
    JS X G W (.Assign [.Name y py] (.ListComp elt [⟨tg, iter, ifs, 0⟩, ⟨tg1, iter1, ifs1, 0⟩] scope pos) spos) (dAsg (dLc2 fi g tt fi1 g1 tt1 fe vs vs1) (gN i)) := by
  subst hvs
  exact PS.imp (ps_setLc2 hc hN hy hyl hsw hi ok hv hg ht hi1 hg1 ht1 he hs hs1) fun E σ H ⟨m, ρ, S, sr, sm, q⟩ => lc2_core3 (W := W) ⟨m, ρ, S, sr, sm, SQ.then (rel := SV X.K) q sr sm fun d S1 v H1 m1 st1 sm1 r1 q1 => q1 _ H1 m1 sm1.refl sm1 ((sr.mono sm st1).set i r1)⟩
/-- xs.append(e) -/
def dApp (fo fe : DE) : DE := fun ρ S => (fo ρ S).bind fun o S1 => match o with
  | .obj n => (match lstAt S1 n with
    | some _ => (fe ρ S1).bind fun d S2 => (match lstAt S2 n with
      | some xs => if xs.length < 1000000 then .ok .non (S2.set n (.lst (xs ++ [d]))) else .bad
      | none => .bad)
    | none => .bad)
  | _ => .bad
variable {o e : Expr} {fo fe' : DE} {apos cpos : Pos}
theorem je_app (ho : JE X G W o fo) (he : JE X G W e fe') (hbase : attributeBase o "append" X.env (eval o X.env) = eval o X.env := by rfl)
    (hfew : ((backTo cpos (starEach [e] X.env)).all (fun x => !x.1) && (backToKw cpos (keywordEach [] X.env)).all (fun x => x.1.isSome)
      && decide ([e].length + ([] : List Keyword).length + (if ([] : List Keyword).isEmpty then 0 else 1) < 30)) = true := by rfl)
    (hline : (apos.endLine == cpos.line) = true := by rfl) (hs : starEach [e] X.env = (false, eval e X.env) :: starEach [] X.env := by rfl) (hplain : (backTo cpos (starEach [] X.env)).any (·.1) = false := by rfl) :
    JE X G W (.Call (.Attribute o "append" apos) [e] [] cpos) (dApp fo fe') :=
  PE.imp (pe_bm PySem.F.plainAttrs_list PySem.F.slot_list_append PySem.F.type_list_append mt_append ho (ja_cons he ja_nil hs) hbase hfew hline hs hplain) fun σ H Q ⟨m, ρ, S, sr, sm, eo⟩ => ⟨m, ρ, S, sr, sm, EO.then (rel := SV X.K) eo fun x S1 v H1 m1 st1 sm1 r1 eo1 => by
    cases x with
    | obj n =>
      dsimp only at eo1
      cases z : lstAt S1 n with
      | none => rw [z] at eo1; exact eo1.elim
      | some xs0 =>
        rw [z] at eo1
        dsimp only at eo1
        obtain ⟨a, rfl, hm⟩ := r1
        obtain ⟨a', ws0, h1, h2, h3⟩ := lstAt_ok sm1 z
        rw [hm] at h1; cases h1
        refine ⟨.inl ⟨rfl, ws0, SqL.of h2⟩, m1, ρ, S1, sr.mono sm st1, sm1, ?_⟩
        unfold daCons daNil
        cases z2 : fe' ρ S1 with
        | bad => rw [z2] at eo1; exact eo1.elim
        | exn x S2 => rw [z2] at eo1; exact eo1
        | ok d S2 =>
          rw [z2] at eo1
          simp only [Out.bind_ok] at eo1 ⊢
          intro vs H2 m2 st2 sm2 r2
          have eo2 := eo1.step st2
          obtain ⟨y, rfl, ry⟩ := svs1 r2
          cases z3 : lstAt S2 n with
          | none => rw [z3] at eo2; exact eo2.elim
          | some xs =>
            rw [z3] at eo2
            dsimp only at eo2
            split at eo2
            · rename_i hz
              obtain ⟨a', ws, h1, h2, h3⟩ := lstAt_ok sm2 z3
              rw [st2.get hm] at h1; cases h1
              have hm2 := st2.get hm
              refine ⟨a, ws, y, rfl, rfl, h2, by rw [← h3.len]; exact Nat.lt_of_lt_of_le hz (size6 (Nat.le_refl _)), ?_⟩
              have st3 : Step m2 H2 m2 (upd H2 a (.lst (ws ++ [y]))) := Step.put sm2 hm2
              exact eo2 _ _ m2 st3 (sm2.put hm2 ⟨ws ++ [y], upd_same, (h3.append (SVs.one ry)).mono sm2 st3⟩) rfl
            · exact eo2.elim
    | _ => exact eo1.elim⟩
end
end DL
set_option Elab.async false
set_option linter.all false
set_option maxRecDepth 100000
set_option maxHeartbeats 2000000
/-! DM2: generator expressions over lists and tuples. -/
namespace DL
open PySem PySem.Spec PyProof.Rows L2
section
variable {X : Cx} {pins : List (Addr × Obj)} {σ : L2.St} {H : Hp} {s : Shared}
/-- the iterator of a list or a tuple -/
theorem iter_any {a : Addr} {xs : List V} {Q : Value → Shared → Prop} (I : Inv X pins σ H s) (hq : SqL X.K H a xs ∨ SqT X.K H a xs)
    (h : ∀ (its : List Value) (o : Obj) (St : Nat → Heap → Prop), Vals xs its → (∀ A' : Around, A'.handled = none → Walks X.prog X.w A' s.heap.objs.size [s.heap.objs.size, a] [s.heap.objs.size] its.length (fun i v => its[i]? = some v) St) → a < s.heap.objs.size → (∃ ob, s.heap.get? a = some ob ∧ ob.cls ≠ .none) → (s.heap.push o).get? s.heap.objs.size = some o →
      St 0 (s.heap.push o) → Q (.ref s.heap.objs.size) { s with heap := s.heap.push o }) : wpAny (model X.prog X.w) X.A (pyIter (.ref a)) Q X.xe s := by
  rcases hq with hq | hq
  · obtain ⟨its, rv, p, hz⟩ := I.list hq
    have hcl : ∃ ob, s.heap.get? a = some ob ∧ ob.cls ≠ .none := by obtain ⟨o, n, ho, hc, _⟩ := p; exact ⟨o, ho, by rw [hc]; exact fun z => by cases z⟩
    have hlt : a < s.heap.objs.size := by obtain ⟨o, ho, _⟩ := hcl; exact Heap.lt_size ho
    refine wpAny_pyIter_list p.isList ?_
    refine h its _ (fun i h' => h'.IsListIter s.heap.objs.size a i ∧ h'.IsList a its.toArray) rv (fun A' hA => ?_) hlt hcl (Heap.get?_push_size _ rfl) ⟨⟨_, Heap.get?_push_size _ rfl, rfl, rfl⟩, p.isList.push _⟩
    have w := Walks.list (prog := X.prog) (w := X.w) hA s.heap.objs.size a (Nat.ne_of_lt hlt) its.toArray
    simpa using w
  · obtain ⟨its, rv, p, hz⟩ := I.tuple hq
    have p' : s.heap.IsTuple a its.toArray := p
    have hcl : ∃ ob, s.heap.get? a = some ob ∧ ob.cls ≠ .none := by obtain ⟨o, ho, hc, _⟩ := p'; exact ⟨o, ho, by rw [hc]; exact fun z => by cases z⟩
    have hlt : a < s.heap.objs.size := by obtain ⟨o, ho, _⟩ := hcl; exact Heap.lt_size ho
    refine wpAny_pyIter_tuple p' ?_
    refine h its _ (fun i h' => h'.IsTupleIter s.heap.objs.size a i ∧ h'.IsTuple a its.toArray) rv (fun A' hA => ?_) hlt hcl (Heap.get?_push_size _ rfl) ⟨⟨_, Heap.get?_push_size _ rfl, rfl, rfl⟩, p'.push _⟩
    have w := Walks.tuple (prog := X.prog) (w := X.w) hA s.heap.objs.size a (Nat.ne_of_lt hlt) its.toArray
    simpa using w
/-- what an element's text must do: at the value v of place i, wherever the objects of the making still stand -/
def EltOk (prog : Program) (w : World) (scope : Scope) (x : Str) (P : Addr) (elt : Expr) (h1 : Heap) (its : List Value) (F : Nat → Value → Prop) : Prop :=
  ∀ (cenv : Env) (A' : Around) (E' : Value → Shared → Prop) (i : Nat) (v : Value) (s₂ : Shared) (m₂ : Str → Option Value), cenv.scope = scope → A'.handled = none → its[i]? = some v → s₂.heap.Ns cenv.locals m₂ → m₂ x = some v →
    (∀ b o, b ≠ P → h1.get? b = some o → s₂.heap.get? b = some o) → wpAny (model prog w) A' (eval elt cenv) (fun y s₃ => F i y ∧ Keeps s₂ s₃) E' s₂
theorem passing_all (n : Nat) : passing (fun _ => true) n 0 = List.range n := by unfold passing; simp
theorem gen_seq {α : Type} {T : List (Addr × Str)} {c P : Addr} {elt iter : Expr} {x : Str} {px gpos : Pos} {scope : Scope} {te : TE} {k : Nat} {Q' : Value → Shared → Prop} {R : α → Addr → List V → Hp → Prop} {F : α → Nat → Value → Prop}
    (hr : Room k X.A) (TB : LamX.TabB X.base X.mg c P) (hcode : X.env.code = .ref c) (hm : (P, X.env.qual ++ "<genexpr>") ∈ T) (hu : ∀ p ∈ T, p.1 = P → p.2 = X.env.qual ++ "<genexpr>")
    (S : GxR.GenS X.env scope x) (hi : PE X iter te) (hs : ∀ v, genFold iter X.env v = pure v) (I : Inv X pins σ H s)
    (h : te σ H fun v H1 => ∃ w a xs, v = .ref a ∧ (SqL X.K H1 a xs ∨ SqT X.K H1 a xs) ∧ LamX.Tabs T H1 ∧ R w a xs H1)
    (hel : ∀ w a xs H1 s1 its, R w a xs H1 → Inv X pins σ H1 s1 → Vals xs its → (∃ ps, H1 P = some (.tbl ps)) → EltOk X.prog X.w scope x P elt s1.heap its (F w))
    (hQ : ∀ w a xs H1 g s5 fp wr G St, R w a xs H1 → WalksS X.prog X.w X.A.in1 g fp wr G xs.length (F w) St → St 0 s5 → (∀ b ∈ fp, b < s5.heap.objs.size) → (∀ s', Moved wr G s5 s' → ∃ H2, LamX.ExtN H1 H2 ∧ LamX.Tabs T H2 ∧ Inv X pins σ H2 s') → Q' (.ref g) s5) :
    wpAny (model X.prog X.w) X.A (eval (.GeneratorExp elt [⟨.Name x px, iter, [], 0⟩] scope gpos) X.env) Q' X.xe s := by
  refine wpAny_GeneratorExp_walksQ hr.hd S.co (closure_ok S.free) S.cell S.dot S.loc S.kind (by have := hr.dp; omega) ?_ hs
  refine thn (hi.run pins s σ H _ I h) fun xv s1 ⟨v, H1, I1, r1, q1⟩ => ?_
  obtain ⟨wt, a, xs, rfl, hq, hT, hR⟩ := q1
  cases r1
  refine iter_any I1 hq fun its o St rv W hlt hcl hot hst => ?_
  have hlen : xs.length = its.length := rv.length
  obtain ⟨ps, hP, ht, ha⟩ := hT _ hm
  have hP1 : s1.heap.get? P = some { cls := .none, data := .fields ps } := I1.hok P _ hP
  have hPlt : P < s1.heap.objs.size := Heap.lt_size hP1
  have hP2 : (s1.heap.push o).get? P = some { cls := .none, data := .fields ps } := Heap.get?_push_of_some _ hP1
  have lim : (s1.heap.push o).NoLimit := I1.nolimit.push o
  have haP : a ≠ P := fun e => by
    obtain ⟨ob, e1, e2⟩ := hcl
    rw [e, hP1] at e1
    cases e1
    exact e2 rfl
  have hcP : cStatics ≠ P := fun e => by
    obtain ⟨_, hns, _⟩ := I1.nolimit
    obtain ⟨o', es, ep, ho, hd, _⟩ := hns
    rw [e, hP1] at ho
    cases ho
    cases hd
  have hcl2 : cStatics < s1.heap.objs.size := let ⟨_, hns, _⟩ := I1.nolimit; hns.lt
  refine ⟨lim, ?_⟩
  -- behind the code: the heap h3
  have rest : ∀ (code : Value) (h3 : Heap) (tk : Nat) (ps' : Array Value), Heap.ExtBut P (s1.heap.push o) h3 → (s1.heap.push o).objs.size ≤ h3.objs.size → h3.get? P = some { cls := .none, data := .fields ps' } →
      (∀ (h' : Heap) (t' : Nat), (∀ b u, b ≠ P → s1.heap.get? b = some u → h'.get? b = some u) → h'.get? P = some { cls := .none, data := .fields ps' } → (∀ b u, s1.heap.objs.size < b → h3.get? b = some u → h'.get? b = some u) → ∃ H2, LamX.ExtN H1 H2 ∧ LamX.Tabs T H2 ∧ H2 P = some (.tbl ps') ∧ Inv X pins σ H2 { s1 with heap := h', toks := t' }) →
      wpAny (model X.prog X.w) X.A (builtinsFor X.env.globals X.env.builtins) (fun bi s₄ => ∃ Ia fp wr n₀ Pf St₀ pz F, Value.ref s1.heap.objs.size = .ref Ia ∧ (∀ A' : Around, A'.handled = none → Walks X.prog X.w A' Ia fp wr n₀ Pf St₀) ∧ St₀ 0 s₄.heap ∧ (∀ b ∈ fp, b < s₄.heap.objs.size) ∧ s₄.heap.NoLimit ∧ cStatics ∉ wr ∧ (∀ href : Heap, (∀ b o, s₄.heap.get? b = some o → href.get? b = some o) → QuietGen X.prog X.w (genEnv scope (cloFrom X.env.cells scope.names []) s₄.heap.objs.size code bi X.env) x [] elt (List.range s₄.heap.objs.size) wr Pf pz F href) ∧
          (∀ a h₅ tk gs, gs.bare = true → s₄.heap.objs.size < a → h₅.objs.size = a + 1 → (∀ b o, s₄.heap.get? b = some o → h₅.get? b = some o) → WalksS X.prog X.w X.A.in4 a (a :: s₄.heap.objs.size :: List.range s₄.heap.objs.size) (s₄.heap.objs.size :: wr) (GenOnlyQ s₄.gens.size) (passing pz n₀ 0).length (fun j y => ∃ i, (passing pz n₀ 0)[j]? = some i ∧ F i y) (GenAt X.prog X.w X.A.in4 a s₄.gens.size s₄.heap.objs.size (List.range s₄.heap.objs.size) wr pz n₀ F) →
            GenAt X.prog X.w X.A.in4 a s₄.gens.size s₄.heap.objs.size (List.range s₄.heap.objs.size) wr pz n₀ F 0 { s₄ with gens := s₄.gens.push gs, toks := tk, heap := h₅ } → Q' (.ref a) { s₄ with gens := s₄.gens.push gs, toks := tk, heap := h₅ })) X.xe { s1 with heap := h3, toks := tk } := by
    intro code h3 tk ps' hx hsz hP3 hfin
    obtain ⟨bm, ob, e1, e2, e3, e4, e5, e6, e7, e8⟩ := TB.bm
    have keep3 : ∀ b u, b ≠ P → s1.heap.get? b = some u → h3.get? b = some u := fun b u hb e => hx b u hb (Heap.get?_push_of_some _ e)
    have sz2 : (s1.heap.push o).objs.size = s1.heap.objs.size + 1 := Heap.size_push ..
    have hi3 : h3.get? s1.heap.objs.size = some o := hx _ _ (Nat.ne_of_gt hPlt) hot
    refine wpAny_builtinsFor (m := X.mg) (by rw [I1.ok.glob]; exact ((I1.mod.glob.keeps I1.bk).push o).extBut hx TB.gP) e1 e2 (keep3 _ _ e4 (I1.bk _ _ e5)) e6 e7 e8 ?_
    refine ⟨s1.heap.objs.size, [s1.heap.objs.size, a], [s1.heap.objs.size], its.length, (fun i v => its[i]? = some v), St, (fun _ => true), F wt, rfl, W, ?_, ?_, lim.extBut hx hcP, ?_, ?_, ?_⟩
    · refine (W X.A hr.hd).frame 0 _ _ hst fun b hb u e => hx b u (fun z => ?_) e
      rw [z] at hb
      rcases List.mem_cons.mp hb with z | z
      · exact Nat.ne_of_lt hPlt z
      · exact haP (List.mem_singleton.mp z).symm
    · intro b hb
      rcases List.mem_cons.mp hb with z | z
      · rw [z]; exact Heap.lt_size hi3
      · rw [List.mem_singleton.mp z]
        exact Nat.lt_of_lt_of_le hlt (show s1.heap.objs.size ≤ h3.objs.size by omega)
    · intro z
      exact Nat.ne_of_lt hcl2 (List.mem_singleton.mp z)
    · intro href hh
      refine ⟨fun A' E' i v s₂ m₂ hA hPv hn hmx hk => ?_, fun A' E' i v s₂ m₂ hA hPv hp hn hmx hk => ?_⟩
      · simp only [List.forIn_nil]
        exact wpAny_pure ⟨rfl, GxR.keeps_refl _⟩
      · refine hel wt a xs H1 s1 its hR I1 rv ⟨ps, hP⟩ _ A' E' i v s₂ m₂ rfl hA hPv hn hmx fun b u hb e => ?_
        have hbl := Heap.lt_size e
        refine hk b (List.mem_range.mpr ?_) (fun z => ?_) u (hh b u (keep3 b u hb e))
        · exact Nat.lt_of_lt_of_le hbl (show s1.heap.objs.size ≤ h3.objs.size by omega)
        · rw [List.mem_singleton.mp z] at hbl
          exact Nat.lt_irrefl _ hbl
    · intro g h5 tk5 gs hgb hag hsz5 hk5 W5 hat
      simp only [passing_all, List.length_range] at W5
      have W6 := W5.in4_1.imp (P' := F wt) (fun j y hy => by
        obtain ⟨i, hij, hy⟩ := hy
        obtain ⟨hj, ej⟩ := List.getElem?_eq_some_iff.mp hij
        rw [List.getElem_range] at ej
        rw [ej]
        exact hy)
      rw [← hlen] at W6 hat
      refine hQ wt a xs H1 g _ _ _ _ _ hR W6 hat (fun b hb => ?_) (fun s' hmv => ?_)
      · show b < h5.objs.size
        rw [hsz5]
        rcases List.mem_cons.mp hb with z | z
        · rw [z]; exact Nat.lt_succ_self _
        · rcases List.mem_cons.mp z with z | z
          · rw [z]; exact Nat.lt_succ_of_lt hag
          · exact Nat.lt_succ_of_lt (Nat.lt_trans (List.mem_range.mp z) hag)
      · have nwr : ∀ b u, b ≠ s1.heap.objs.size → h3.get? b = some u → b ∉ h3.objs.size :: [s1.heap.objs.size] := fun b u hne e hb => by
          have hl := Heap.lt_size e
          rcases List.mem_cons.mp hb with z | z
          · rw [z] at hl
            exact Nat.lt_irrefl _ hl
          · exact hne (List.mem_singleton.mp z)
        have mv : ∀ b u, b ≠ s1.heap.objs.size → h3.get? b = some u → s'.heap.get? b = some u := fun b u hne e => hmv.heap b u (nwr b u hne e) (hk5 b u e)
        obtain ⟨H2, x1, x2, x3, J⟩ := hfin s'.heap s'.toks (fun b u hb e => mv b u (Nat.ne_of_lt (Heap.lt_size e)) (keep3 b u hb e)) (mv P _ (Nat.ne_of_lt hPlt) hP3) (fun b u hb e => mv b u (Nat.ne_of_gt hb) e)
        have J2 := GxR.inv_tab (more := #[]) (h' := s'.heap) (g' := s'.gens) (d' := s'.drawn) (t' := s'.toks) J x3 (fun b u _ e => e) (by rw [Array.append_empty]; exact mv P _ (Nat.ne_of_lt hPlt) hP3) (AllBare.movedS (I1.bare.push hgb) hmv)
        have eH : upd H2 P (.tbl (ps' ++ #[])) = H2 := by
          funext b
          by_cases hb : b = P
          · rw [hb, upd_same, Array.append_empty, x3]
          · rw [upd_ne hb]
        rw [eH] at J2
        refine ⟨H2, x1, x2, ?_⟩
        have e9 := GxR.sh_eta s1 s' hmv.os
        rw [← e9]
        exact J2
  cases hf : codeAmong gpos ps.toList with
  | some cv =>
    refine wpAny_genexprCode_hit hcode ((TB.code.keeps fun b u e => Heap.get?_push_of_some _ (I1.bk b u e)).code hP2 ht) hf ?_
    refine rest cv (s1.heap.push o) s1.toks ps (Heap.ExtBut.refl _ _) (Nat.le_refl _) hP2 fun h' t' k1 k2 _ => ?_
    refine ⟨H1, LamX.ExtN.refl H1, hT, hP, I1.kept fun b u e => ?_⟩
    by_cases hb : b = P
    · rw [hb, hP1] at e
      cases e
      rw [hb]
      exact k2
    · exact k1 b u hb e
  | none =>
    have cd : PySem.W.CodeHd (s1.heap.push o) c P := TB.code.keeps fun b u e => Heap.get?_push_of_some _ (I1.bk b u e)
    refine wpAny_genexprCodeX hcode (cd.code hP2 ht) (cd.tab hP2) hf fun c' h3 tk hx hge hlt3 hco' hrec htab' _ => ?_
    have sz2 : (s1.heap.push o).objs.size = s1.heap.objs.size + 1 := Heap.size_push ..
    refine rest _ h3 tk _ hx (Nat.le_trans hge (Nat.le_of_lt hlt3)) htab'.2 fun h' t' k1 k2 k3 => ?_
    obtain ⟨c2, oc, vs, t, ec, hoc, hd, hv⟩ := hrec
    cases ec
    have hge1 : s1.heap.objs.size ≤ c' := by have : (s1.heap.push o).objs.size ≤ c' := hge; omega
    have nC : H1 c' = none := I1.hok.fresh hge1
    have J := LamX.inv_table (t' := t') (more := #[rawInt gpos.line, rawInt gpos.col, .ref c']) (h' := h') I1 hP k1 k2 hge1 ⟨oc, vs, t, k3 c' oc (by have : (s1.heap.push o).objs.size ≤ c' := hge; omega) hoc, hd, hv⟩
    have hE : LamX.ExtN H1 (upd (upd H1 P (.tbl (ps ++ #[rawInt gpos.line, rawInt gpos.col, .ref c']))) c' (LamX.CodeO c' (X.env.qual ++ "<genexpr>"))) := by
      intro b u e n
      have nb : b ≠ P := fun z => by
        rw [z, hP] at e
        exact n ps (Option.some.inj e).symm
      rw [upd_ne (ne_of_none e nC), upd_ne nb]
      exact e
    have eL : (ps ++ #[rawInt gpos.line, rawInt gpos.col, .ref c']).toList = ps.toList ++ [rawInt gpos.line, rawInt gpos.col, .ref c'] := by simp
    refine ⟨_, hE, fun p hp => ?_, by rw [upd_ne (ne_of_none hP nC), upd_same], J⟩
    by_cases hb : p.1 = P
    · rw [hu p hp hb, hb]
      refine ⟨_, by rw [upd_ne (ne_of_none hP nC), upd_same], by rw [eL]; exact PySem.TriplesOk_snoc _ _ _ _ ht, fun p' cv hcv => ?_⟩
      rw [eL] at hcv
      rcases LamX.among_app _ ht hcv with z | z
      · obtain ⟨c0, q1, q2⟩ := ha p' cv z
        exact ⟨c0, q1, hE _ _ q2 LamX.codeO_ne⟩
      · exact ⟨c', z, upd_same⟩
    · obtain ⟨ps', a1, a2, a3⟩ := hT p hp
      refine ⟨ps', by rw [upd_ne (ne_of_none a1 nC), upd_ne hb]; exact a1, a2, fun p' cv hcv => ?_⟩
      obtain ⟨c0, q1, q2⟩ := a3 p' cv hcv
      exact ⟨c0, q1, hE _ _ q2 LamX.codeO_ne⟩
end
end DL
set_option Elab.async false
set_option linter.all false
set_option maxRecDepth 100000
set_option maxHeartbeats 2000000
/-! DM3: the elements of generator expressions; any, all, sum of them. -/
namespace DL
open PySem PySem.Spec PyProof.Rows L2
/-- where an element is run: the making's state s1, the running state s₂ -/
structure At (X : Cx) (G : Gx) (scope : Scope) (x : Str) (P : Addr) (m : List Addr) (S : Store) (H1 : Hp) (s1 : Shared) (v : Value) (cenv : Env) (A' : Around) (s₂ : Shared) : Prop where
  inv : ∃ pins σ, Inv X pins σ H1 s1
  sim : Sim X.K G m S H1
  sc : cenv.scope = scope
  hd : A'.handled = none
  ns : ∃ m₂, s₂.heap.Ns cenv.locals m₂ ∧ m₂ x = some v
  keep : ∀ b o, b ≠ P → s1.heap.get? b = some o → s₂.heap.get? b = some o
  tab : ∃ ps, H1 P = some (.tbl ps)
theorem At.go {X : Cx} {G : Gx} {scope : Scope} {x : Str} {P : Addr} {m : List Addr} {S : Store} {H1 : Hp} {s1 : Shared} {v : Value} {cenv : Env} {A' : Around} {s₂ s₃ : Shared} (t : At X G scope x P m S H1 s1 v cenv A' s₂) (k : Keeps s₂ s₃) : At X G scope x P m S H1 s1 v cenv A' s₃ := by
  obtain ⟨h', tk, e, hk⟩ := k
  subst e
  obtain ⟨m₂, hn, hm⟩ := t.ns
  exact ⟨t.inv, t.sim, t.sc, t.hd, ⟨m₂, hn.keeps hk, hm⟩, fun b o hb e => hk b o (t.keep b o hb e), t.tab⟩
abbrev GE := D → Store → Option D
def EJ (X : Cx) (G : Gx) (scope : Scope) (x : Str) (P : Addr) (e : Expr) (g : GE) : Prop :=
  ∀ (m : List Addr) (S : Store) (H1 : Hp) (s1 : Shared) (d : D) (v0 : V) (v : Value) (r : D) (cenv : Env) (A' : Around) (E' : Value → Shared → Prop) (s₂ : Shared), At X G scope x P m S H1 s1 v cenv A' s₂ → SV X.K m H1 d v0 → RelV v0 v → g d S = some r →
    wpAny (model X.prog X.w) A' (eval e cenv) (fun y s₃ => (∃ rv, RelV rv y ∧ SV X.K m H1 r rv) ∧ Keeps s₂ s₃) E' s₂
theorem keeps_tr {a b c : Shared} (h : Keeps a b) (q : Keeps b c) : Keeps a c := by
  obtain ⟨h1, t1, e1, k1⟩ := h
  obtain ⟨h2, t2, e2, k2⟩ := q
  subst e1
  subst e2
  exact ⟨h2, t2, rfl, fun b o e => k2 b o (k1 b o e)⟩
section
variable {X : Cx} {G : Gx} {scope : Scope} {x : Str} {P : Addr} {a b : Expr} {ga gb : GE} {pos : Pos}
theorem ej_name (hk : scope.kind = .function) (hl : scope.names.lookup x = some .local) (hd : (x == ("__debug__" : Str)) = false := by decide) : EJ X G scope x P (.Name x pos) (fun d _ => some d) := by
  intro m S H1 s1 d v0 v r cenv A' E' s₂ t sv rv e
  cases e
  obtain ⟨m₂, hn, hm⟩ := t.ns
  refine wpAny_Name (wpAny_loadName_local (by rw [t.sc]; exact hk) (show cenv.scope.names.lookup x = some .local by rw [t.sc]; exact hl) hn hm ?_) hd
  exact ⟨⟨v0, rv, sv⟩, GxR.keeps_refl _⟩
theorem ej_int {i : Int} {j : Nat} : EJ X G scope x P (.Constant (.int i) j pos) (fun _ _ => some (.int i)) := by
  intro m S H1 s1 d v0 v r cenv A' E' s₂ t sv rv e
  cases e
  exact wpAny_Constant_int ⟨⟨.int i, ⟨_, rfl⟩, rfl⟩, GxR.keeps_tok _ _⟩
def g2 (f : D → D → Option D) (ga gb : GE) : GE := fun d S => match ga d S, gb d S with
  | some p, some q => f p q
  | _, _ => none
theorem g2_some {f : D → D → Option D} {d : D} {S : Store} {r : D} (h : g2 f ga gb d S = some r) : ∃ p q, ga d S = some p ∧ gb d S = some q ∧ f p q = some r := by
  unfold g2 at h
  split at h
  · exact ⟨_, _, by assumption, by assumption, h⟩
  · cases h
def cmpG (p : Int → Int → Bool) : D → D → Option D
  | .int i, .int j => some (.bl (p i j))
  | _, _ => none
theorem ej_cmp {op : CmpOp} {p : Int → Int → Bool} (ho : ∀ {A : Around} {E : Value → Shared → Prop} {s : Shared} {i j : Int} {t u : Tok} {Q : Value → Shared → Prop}, Q (.bool (p i j)) s → wpAny (model X.prog X.w) A (compareOp op (.int i t) (.int j u)) Q E s)
    (ha : EJ X G scope x P a ga) (hb : EJ X G scope x P b gb) (hm : behindInMarks op b = false := by with_unfolding_all rfl) : EJ X G scope x P (.Compare a [op] [b] pos) (g2 (cmpG p) ga gb) := by
  intro m S H1 s1 d v0 v r cenv A' E' s₂ t sv rv e
  obtain ⟨p1, q1, e1, e2, e3⟩ := g2_some e
  refine wpAny_Compare1 ?_ hm
  refine wpAny_mono (ha m S H1 s1 d v0 v p1 cenv A' E' s₂ t sv rv e1) (fun y s3 hy => ?_) fun _ _ e => e
  obtain ⟨⟨v1, r1, sv1⟩, k1⟩ := hy
  refine wpAny_mono (hb m S H1 s1 d v0 v q1 cenv A' E' s3 (t.go k1) sv rv e2) (fun z s4 hz => ?_) fun _ _ e => e
  obtain ⟨⟨v2, r2, sv2⟩, k2⟩ := hz
  unfold cmpG at e3
  split at e3
  · cases e3
    cases sv1; cases sv2
    obtain ⟨t1, rfl⟩ := r1
    obtain ⟨t2, rfl⟩ := r2
    exact ho ⟨⟨.bl _, rfl, rfl⟩, keeps_tr k1 k2⟩
  · cases e3
theorem ej_lt (ha : EJ X G scope x P a ga) (hb : EJ X G scope x P b gb) (hm : behindInMarks .Lt b = false := by with_unfolding_all rfl) : EJ X G scope x P (.Compare a [.Lt] [b] pos) (g2 (cmpG fun i j => decide (i < j)) ga gb) := ej_cmp (fun q => lt_int q) ha hb hm
def ixG : D → D → Option D
  | .tup xs, .int k => atI xs k
  | _, _ => none
theorem ej_ix (ha : EJ X G scope x P a ga) (hb : EJ X G scope x P b gb) (hs : PlainIx b := by exact (fun _ _ => rfl)) : EJ X G scope x P (.Subscript a b pos) (g2 ixG ga gb) := by
  intro m S H1 s1 d v0 v r cenv A' E' s₂ t sv rv e
  obtain ⟨p1, q1, e1, e2, e3⟩ := g2_some e
  refine Subscript_ ?_
  refine wpAny_mono (ha m S H1 s1 d v0 v p1 cenv A' E' s₂ t sv rv e1) (fun y s3 hy => ?_) fun _ _ e => e
  obtain ⟨⟨v1, r1, sv1⟩, k1⟩ := hy
  refine wpAny_mono (hb m S H1 s1 d v0 v q1 cenv A' E' s3 (t.go k1) sv rv e2) (fun z s4 hz => ?_) fun _ _ e => e
  obtain ⟨⟨v2, r2, sv2⟩, k2⟩ := hz
  have t4 := (t.go k1).go k2
  unfold ixG at e3
  split at e3
  · rename_i xs k
    obtain ⟨p, vs, rfl, hq, hv⟩ := sv1
    cases sv2
    cases r1
    obtain ⟨t2, rfl⟩ := r2
    obtain ⟨pins, σ, I⟩ := t.inv
    obtain ⟨its, rvs, pl, hz⟩ := I.tuple hq
    obtain ⟨u, eu, su⟩ := atI_svs hv e3
    obtain ⟨j, h1, h2, h3, h4, h5⟩ := atI_get eu
    obtain ⟨w, ew, rw'⟩ := rvs.get h2
    have hl := rvs.length
    have hn := line63
    have pl4 : IsTup s4.heap p its.toArray := by
      obtain ⟨o, ho, hc, n, hd⟩ := pl
      refine ⟨o, t4.keep p o (fun z => ?_) ho, hc, n, hd⟩
      obtain ⟨ps, hP⟩ := t.tab
      have hP1 : s1.heap.get? P = some { cls := .none, data := .fields ps } := I.hok P _ hP
      rw [z, hP1] at ho
      cases ho
      cases hc
    exact subscriptTail_builtinR (x := w) pl4.typeIs slot_tuple_getitem.lookup
      (getItem_tuple (j := j) (Q := fun r s' => r = w ∧ ((∃ rv, RelV rv r ∧ SV X.K m H1 _ rv) ∧ Keeps s₂ s')) pl4 (by omega) (by omega) (by rw [List.size_toArray, ← hl]; exact h1) (by simpa using ew) ⟨rfl, ⟨u, rw', su⟩, keeps_tr k1 k2⟩) (hs _ _)
  · cases e3
/-! ### any, all, sum of a generator expression -/
def boolsG (g : GE) (S : Store) : List D → Option (List Bool)
  | [] => some []
  | d :: ds => match g d S, boolsG g S ds with
    | some (.bl b), some bs => some (b :: bs)
    | _, _ => none
def intsG (g : GE) (S : Store) : List D → Option (List Int)
  | [] => some []
  | d :: ds => match g d S, intsG g S ds with
    | some (.int b), some bs => some (b :: bs)
    | _, _ => none
theorem boolsG_at {g : GE} {S : Store} : ∀ {ds : List D} {bs : List Bool}, boolsG g S ds = some bs → ds.length = bs.length ∧ ∀ (i : Nat) (d : D), ds[i]? = some d → ∃ b, bs[i]? = some b ∧ g d S = some (.bl b)
  | [], bs, h => by cases h; exact ⟨rfl, fun i d e => by simp at e⟩
  | d :: ds, bs, h => by
    unfold boolsG at h
    split at h
    · rename_i b bs' e1 e2
      cases h
      obtain ⟨q1, q2⟩ := boolsG_at e2
      refine ⟨by simp [q1], fun i d' e => ?_⟩
      cases i with
      | zero => simp at e; subst e; exact ⟨b, by simp, e1⟩
      | succ i => simpa using q2 i d' (by simpa using e)
    · cases h
theorem intsG_at {g : GE} {S : Store} : ∀ {ds : List D} {bs : List Int}, intsG g S ds = some bs → ds.length = bs.length ∧ ∀ (i : Nat) (d : D), ds[i]? = some d → ∃ b, bs[i]? = some b ∧ g d S = some (.int b)
  | [], bs, h => by cases h; exact ⟨rfl, fun i d e => by simp at e⟩
  | d :: ds, bs, h => by
    unfold intsG at h
    split at h
    · rename_i b bs' e1 e2
      cases h
      obtain ⟨q1, q2⟩ := intsG_at e2
      refine ⟨by simp [q1], fun i d' e => ?_⟩
      cases i with
      | zero => simp at e; subst e; exact ⟨b, by simp, e1⟩
      | succ i => simpa using q2 i d' (by simpa using e)
    · cases h
def dAnyG (fe : DE) (g : GE) : DE := fun ρ S => (fe ρ S).bind fun d S1 => match seqAt S1 d with
  | some xs => (match boolsG g S1 xs with
    | some bs => .ok (.bl (bs.any id)) S1
    | none => .bad)
  | none => .bad
def dAllG (fe : DE) (g : GE) : DE := fun ρ S => (fe ρ S).bind fun d S1 => match seqAt S1 d with
  | some xs => (match boolsG g S1 xs with
    | some bs => .ok (.bl (bs.all id)) S1
    | none => .bad)
  | none => .bad
def dSumG (fe : DE) (g : GE) : DE := fun ρ S => (fe ρ S).bind fun d S1 => match seqAt S1 d with
  | some xs => (match intsG g S1 xs with
    | some bs => .ok (.int bs.sum) S1
    | none => .bad)
  | none => .bad
def trB (bs : List Bool) (j : Nat) : Bool := (bs[j]?).getD false
theorem any_trB (bs : List Bool) : (List.range bs.length).any (trB bs) = bs.any id := by
  rw [Bool.eq_iff_iff, List.any_eq_true, List.any_eq_true]
  constructor
  · rintro ⟨j, hj, h⟩
    have hj' := List.mem_range.mp hj
    unfold trB at h
    rw [List.getElem?_eq_getElem hj'] at h
    exact ⟨_, List.getElem_mem hj', h⟩
  · rintro ⟨b, hb, h⟩
    obtain ⟨j, hj, e⟩ := List.getElem_of_mem hb
    refine ⟨j, List.mem_range.mpr hj, ?_⟩
    unfold trB
    rw [List.getElem?_eq_getElem hj, e]
    exact h
theorem all_trB (bs : List Bool) : (List.range bs.length).all (trB bs) = bs.all id := by
  rw [Bool.eq_iff_iff, List.all_eq_true, List.all_eq_true]
  constructor
  · intro h b hb
    obtain ⟨j, hj, e⟩ := List.getElem_of_mem hb
    have q := h j (List.mem_range.mpr hj)
    unfold trB at q
    rw [List.getElem?_eq_getElem hj, e] at q
    exact q
  · intro h j hj
    have hj' := List.mem_range.mp hj
    unfold trB
    rw [List.getElem?_eq_getElem hj']
    exact h _ (List.getElem_mem hj')
/-- what the making knows of the items -/
structure GW where
  m : List Addr
  S : Store
  ds : List D
def RW (X : Cx) (G : Gx) (w : GW) (xs : List V) (H1 : Hp) : Prop := Sim X.K G w.m w.S H1 ∧ SVs X.K w.m H1 w.ds xs
theorem elt_of {elt : Expr} {g : GE} {its : List Value} {xs : List V} {w : GW} {H1 : Hp} {s1 : Shared} {pins : List (Addr × Obj)} {σ : L2.St} {F : Nat → Value → Prop} (hel : EJ X G scope x P elt g) (hR : RW X G w xs H1) (I : Inv X pins σ H1 s1) (rv : Vals xs its) (hP : ∃ ps, H1 P = some (.tbl ps))
    (hF : ∀ (i : Nat) (d : D), w.ds[i]? = some d → ∃ r, g d w.S = some r ∧ ∀ rv y, RelV rv y → SV X.K w.m H1 r rv → F i y) : EltOk X.prog X.w scope x P elt s1.heap its F := by
  intro cenv A' E' i v s₂ m₂ hsc hA hv hn hmx hk
  obtain ⟨sm, sv⟩ := hR
  have hi : i < its.length := (List.getElem?_eq_some_iff.mp hv).1
  have hix : i < xs.length := by rw [rv.length]; exact hi
  have hid : i < w.ds.length := by rw [sv.len]; exact hix
  obtain ⟨v0, h1, h2⟩ := sv.get (i := i) (d := w.ds[i]) (by simp [hid])
  obtain ⟨u, h3, h4⟩ := rv.get h1
  rw [hv] at h3
  cases h3
  obtain ⟨r, e1, e2⟩ := hF i w.ds[i] (by simp [hid])
  refine wpAny_mono (hel w.m w.S H1 s1 w.ds[i] v0 v r cenv A' E' s₂ ⟨⟨pins, σ, I⟩, sm, hsc, hA, ⟨m₂, hn, hmx⟩, hk, hP⟩ h2 h4 e1) (fun y s3 hy => ?_) fun _ _ e => e
  obtain ⟨⟨rv, q1, q2⟩, k⟩ := hy
  exact ⟨e2 rv y q1 q2, k⟩
variable {W : WX} {iter elt : Expr} {fe : DE} {g : GE} {px p gpos : Pos} {k : Nat} {c : Addr}
theorem je_anyG (hr : Room k X.A) (hm : X.mg "any" = none) (TB : LamX.TabB X.base X.mg c P) (hcode : X.env.code = .ref c) (hT : (P, X.env.qual ++ "<genexpr>") ∈ G.T) (hu : ∀ p ∈ G.T, p.1 = P → p.2 = X.env.qual ++ "<genexpr>")
    (S : GxR.GenS X.env scope x) (hi : JE X G W iter fe) (hel : EJ X G scope x P elt g) (hs : ∀ v, genFold iter X.env v = pure v := by intro _; rfl) (hg : Gl X "any" := by rfl)
    (he : starEach [.GeneratorExp elt [⟨.Name x px, iter, [], 0⟩] scope gpos] X.env = (false, eval (.GeneratorExp elt [⟨.Name x px, iter, [], 0⟩] scope gpos) X.env) :: starEach [] X.env := by rfl) :
    JE X G W (.Call (.Name "any" p) [.GeneratorExp elt [⟨.Name x px, iter, [], 0⟩] scope gpos] [] pos) (dAnyG fe g) := by
  refine ⟨fun pins s σ H Q I h => ?_⟩
  obtain ⟨m, ρ, St, sr, sm, eo⟩ := h
  refine wpAny_Call_Name_kw (ld_blt I hg hm boot_any ?_)
  refine PyProof.Rows.callWith_builtin1 ?_ he (by rfl)
  rw [he]
  show wpAny _ _ (spliced ((false, eval (.GeneratorExp elt [⟨.Name x px, iter, [], 0⟩] scope gpos) X.env) :: backTo pos (starEach [] X.env))) _ _ s
  refine Calls.spliced_cons (gen_seq (T := G.T) (R := fun (w : GW × List Bool) a xs H1 => RW X G w.1 xs H1 ∧ boolsG g w.1.S w.1.ds = some w.2 ∧ ∀ H2, LamX.ExtN H1 H2 → LamX.Tabs G.T H2 → Q (.bl (w.2.any id)) H2) (F := fun w i y => ∃ b, w.2[i]? = some b ∧ y = .bool b)
    hr TB hcode hT hu S hi hs I ⟨m, ρ, St, sr, sm, EO.then (rel := SV X.K) eo fun d S1 v H1 m1 st1 sm1 r1 eo1 => ?_⟩ (fun w a xs H1 s1 its hR I1 rv hP => ?_) (fun w a xs H1 g5 s5 fp wr GG Sg hR Wk hst hfp hfin => ?_))
  · split at eo1
    · rename_i ds e1
      split at eo1
      · rename_i bs e2
        obtain ⟨q, vs, rfl, sv, sq⟩ := seqAt_ok sm1 e1 r1
        exact ⟨(⟨m1, S1, ds⟩, bs), q, vs, rfl, sq, sm1.tabs, ⟨sm1, sv⟩, e2, fun H2 x1 x2 => by
          obtain ⟨st2, sm2⟩ := sim_ext sm1 x1 x2
          exact eo1 _ H2 m1 st2 sm2 rfl⟩
      · exact eo1.elim
    · exact eo1.elim
  · obtain ⟨b1, b2⟩ := boolsG_at hR.2.1
    refine elt_of hel hR.1 I1 rv hP fun i d hd => ?_
    obtain ⟨b, e1, e2⟩ := b2 i d hd
    refine ⟨_, e2, fun rv y q1 q2 => ⟨b, e1, ?_⟩⟩
    cases q2
    cases q1
    rfl
  · obtain ⟨b1, b2⟩ := boolsG_at hR.2.1
    have hn : xs.length = w.2.length := by rw [← hR.1.2.len, b1]
    refine Calls.spliced_nil ?_
    refine call_any_walkS (Wk.self 0 _ _ _ hst ⟨g5, fp, wr, GG, xs.length, _, Sg, trB w.2, rfl, Wk, hst, ?_, fun s' hmv => ?_⟩)
    · intro j y sj Qj Ej hy hQj
      obtain ⟨b, e1, rfl⟩ := hy
      have hQ2 : Qj (trB w.2 j) sj := hQj
      unfold trB at hQ2
      rw [e1] at hQ2
      exact wpAny_truthy_bool hQ2
    · obtain ⟨H2, x1, x2, J⟩ := hfin s' hmv
      refine ⟨.bl _, H2, J, rfl, ?_⟩
      rw [hn, any_trB]
      exact hR.2.2 H2 x1 x2
theorem je_allG (hr : Room k X.A) (hm : X.mg "all" = none) (TB : LamX.TabB X.base X.mg c P) (hcode : X.env.code = .ref c) (hT : (P, X.env.qual ++ "<genexpr>") ∈ G.T) (hu : ∀ p ∈ G.T, p.1 = P → p.2 = X.env.qual ++ "<genexpr>")
    (S : GxR.GenS X.env scope x) (hi : JE X G W iter fe) (hel : EJ X G scope x P elt g) (hs : ∀ v, genFold iter X.env v = pure v := by intro _; rfl) (hg : Gl X "all" := by rfl)
    (he : starEach [.GeneratorExp elt [⟨.Name x px, iter, [], 0⟩] scope gpos] X.env = (false, eval (.GeneratorExp elt [⟨.Name x px, iter, [], 0⟩] scope gpos) X.env) :: starEach [] X.env := by rfl) :
    JE X G W (.Call (.Name "all" p) [.GeneratorExp elt [⟨.Name x px, iter, [], 0⟩] scope gpos] [] pos) (dAllG fe g) := by
  refine ⟨fun pins s σ H Q I h => ?_⟩
  obtain ⟨m, ρ, St, sr, sm, eo⟩ := h
  refine wpAny_Call_Name_kw (ld_blt I hg hm PyProof.Rows.boot_all ?_)
  refine PyProof.Rows.callWith_builtin1 ?_ he (by rfl)
  rw [he]
  show wpAny _ _ (spliced ((false, eval (.GeneratorExp elt [⟨.Name x px, iter, [], 0⟩] scope gpos) X.env) :: backTo pos (starEach [] X.env))) _ _ s
  refine Calls.spliced_cons (gen_seq (T := G.T) (R := fun (w : GW × List Bool) a xs H1 => RW X G w.1 xs H1 ∧ boolsG g w.1.S w.1.ds = some w.2 ∧ ∀ H2, LamX.ExtN H1 H2 → LamX.Tabs G.T H2 → Q (.bl (w.2.all id)) H2) (F := fun w i y => ∃ b, w.2[i]? = some b ∧ y = .bool b)
    hr TB hcode hT hu S hi hs I ⟨m, ρ, St, sr, sm, EO.then (rel := SV X.K) eo fun d S1 v H1 m1 st1 sm1 r1 eo1 => ?_⟩ (fun w a xs H1 s1 its hR I1 rv hP => ?_) (fun w a xs H1 g5 s5 fp wr GG Sg hR Wk hst hfp hfin => ?_))
  · split at eo1
    · rename_i ds e1
      split at eo1
      · rename_i bs e2
        obtain ⟨q, vs, rfl, sv, sq⟩ := seqAt_ok sm1 e1 r1
        exact ⟨(⟨m1, S1, ds⟩, bs), q, vs, rfl, sq, sm1.tabs, ⟨sm1, sv⟩, e2, fun H2 x1 x2 => by
          obtain ⟨st2, sm2⟩ := sim_ext sm1 x1 x2
          exact eo1 _ H2 m1 st2 sm2 rfl⟩
      · exact eo1.elim
    · exact eo1.elim
  · obtain ⟨b1, b2⟩ := boolsG_at hR.2.1
    refine elt_of hel hR.1 I1 rv hP fun i d hd => ?_
    obtain ⟨b, e1, e2⟩ := b2 i d hd
    refine ⟨_, e2, fun rv y q1 q2 => ⟨b, e1, ?_⟩⟩
    cases q2
    cases q1
    rfl
  · obtain ⟨b1, b2⟩ := boolsG_at hR.2.1
    have hn : xs.length = w.2.length := by rw [← hR.1.2.len, b1]
    refine Calls.spliced_nil ?_
    refine call_all_walkS (Wk.self 0 _ _ _ hst ⟨g5, fp, wr, GG, xs.length, _, Sg, trB w.2, rfl, Wk, hst, ?_, fun s' hmv => ?_⟩)
    · intro j y sj Qj Ej hy hQj
      obtain ⟨b, e1, rfl⟩ := hy
      have hQ2 : Qj (trB w.2 j) sj := hQj
      unfold trB at hQ2
      rw [e1] at hQ2
      exact wpAny_truthy_bool hQ2
    · obtain ⟨H2, x1, x2, J⟩ := hfin s' hmv
      refine ⟨.bl _, H2, J, rfl, ?_⟩
      rw [hn, all_trB]
      exact hR.2.2 H2 x1 x2
theorem preSum_take (bs : List Int) : ∀ n, n ≤ bs.length → preSum (fun j => (bs[j]?).getD 0) n = (bs.take n).sum
  | 0, _ => by simp [preSum]
  | n + 1, h => by
    rw [preSum, preSum_take bs n (by omega), List.take_add_one, List.getElem?_eq_getElem (by omega)]
    simp only [Option.getD_some, Option.toList_some, List.sum_append, List.sum_cons, List.sum_nil, Int.add_zero]
theorem preSum_list (bs : List Int) : preSum (fun j => (bs[j]?).getD 0) bs.length = bs.sum := by
  rw [preSum_take bs _ (Nat.le_refl _), List.take_length]
theorem je_sumG (hr : Room k X.A) (hm : X.mg "sum" = none) (TB : LamX.TabB X.base X.mg c P) (hcode : X.env.code = .ref c) (hT : (P, X.env.qual ++ "<genexpr>") ∈ G.T) (hu : ∀ p ∈ G.T, p.1 = P → p.2 = X.env.qual ++ "<genexpr>")
    (S : GxR.GenS X.env scope x) (hi : JE X G W iter fe) (hel : EJ X G scope x P elt g) (hs : ∀ v, genFold iter X.env v = pure v := by intro _; rfl) (hg : Gl X "sum" := by rfl)
    (he : starEach [.GeneratorExp elt [⟨.Name x px, iter, [], 0⟩] scope gpos] X.env = (false, eval (.GeneratorExp elt [⟨.Name x px, iter, [], 0⟩] scope gpos) X.env) :: starEach [] X.env := by rfl) :
    JE X G W (.Call (.Name "sum" p) [.GeneratorExp elt [⟨.Name x px, iter, [], 0⟩] scope gpos] [] pos) (dSumG fe g) := by
  refine ⟨fun pins s σ H Q I h => ?_⟩
  obtain ⟨m, ρ, St, sr, sm, eo⟩ := h
  refine wpAny_Call_Name_kw (ld_blt I hg hm PyProof.Rows.boot_sum ?_)
  refine PyProof.Rows.callWith_builtin1 ?_ he (by rfl)
  rw [he]
  show wpAny _ _ (spliced ((false, eval (.GeneratorExp elt [⟨.Name x px, iter, [], 0⟩] scope gpos) X.env) :: backTo pos (starEach [] X.env))) _ _ s
  refine Calls.spliced_cons (gen_seq (T := G.T) (R := fun (w : GW × List Int) a xs H1 => RW X G w.1 xs H1 ∧ intsG g w.1.S w.1.ds = some w.2 ∧ ∀ H2, LamX.ExtN H1 H2 → LamX.Tabs G.T H2 → Q (.int w.2.sum) H2) (F := fun w i y => ∃ b t, w.2[i]? = some b ∧ y = .int b t)
    hr TB hcode hT hu S hi hs I ⟨m, ρ, St, sr, sm, EO.then (rel := SV X.K) eo fun d S1 v H1 m1 st1 sm1 r1 eo1 => ?_⟩ (fun w a xs H1 s1 its hR I1 rv hP => ?_) (fun w a xs H1 g5 s5 fp wr GG Sg hR Wk hst hfp hfin => ?_))
  · split at eo1
    · rename_i ds e1
      split at eo1
      · rename_i bs e2
        obtain ⟨q, vs, rfl, sv, sq⟩ := seqAt_ok sm1 e1 r1
        exact ⟨(⟨m1, S1, ds⟩, bs), q, vs, rfl, sq, sm1.tabs, ⟨sm1, sv⟩, e2, fun H2 x1 x2 => by
          obtain ⟨st2, sm2⟩ := sim_ext sm1 x1 x2
          exact eo1 _ H2 m1 st2 sm2 rfl⟩
      · exact eo1.elim
    · exact eo1.elim
  · obtain ⟨b1, b2⟩ := intsG_at hR.2.1
    refine elt_of hel hR.1 I1 rv hP fun i d hd => ?_
    obtain ⟨b, e1, e2⟩ := b2 i d hd
    refine ⟨_, e2, fun rv y q1 q2 => ?_⟩
    cases q2
    obtain ⟨t, rfl⟩ := q1
    exact ⟨b, t, e1, rfl⟩
  · obtain ⟨b1, b2⟩ := intsG_at hR.2.1
    have hn : xs.length = w.2.length := by rw [← hR.1.2.len, b1]
    refine Calls.spliced_nil ?_
    refine call_sum_walkAnyS (Wk.self 0 _ _ _ hst ⟨g5, fp, wr, GG, xs.length, _, Sg, (fun j => (w.2[j]?).getD 0), rfl, Wk, hst, hfp, ?_, fun s' t' hmv => ?_⟩)
    · rintro j y ⟨b, t, e1, rfl⟩
      exact ⟨t, by dsimp only; rw [e1]; rfl⟩
    · obtain ⟨H2, x1, x2, J⟩ := hfin s' hmv
      refine ⟨.int _, H2, J, ⟨t', rfl⟩, ?_⟩
      rw [hn, preSum_list]
      exact hR.2.2 H2 x1 x2
end
end DL
set_option Elab.async false
set_option linter.all false
set_option maxRecDepth 100000
set_option maxHeartbeats 2000000
/-! DM4: what is not told; in; sums, least and greatest of lists; reversed; index; names of the top. -/
namespace DL
open PySem PySem.Spec PyProof.Rows L2
def dBad : DE := fun _ _ => .bad
def dBadS : DS := fun _ _ => .bad
def flatOf : D → Option V
  | .non => some .non
  | .bl b => some (.bl b)
  | .int i => some (.int i)
  | .str x => some (.str x)
  | _ => none
def flatsOf : List D → Option (List V)
  | [] => some []
  | d :: ds => match flatOf d, flatsOf ds with
    | some v, some vs => some (v :: vs)
    | _, _ => none
def intsOf : List D → Option (List Int)
  | [] => some []
  | .int i :: ds => (intsOf ds).map (i :: ·)
  | _ :: _ => none
section
variable {K : PySem.W.Frag} {m : List Addr} {H : Hp}
theorem flatOf_ok {d : D} {v u : V} (e : flatOf d = some u) (h : SV K m H d v) : v = u ∧ flatV u = true := by
  cases d with
  | non => cases e; cases h; exact ⟨rfl, rfl⟩
  | bl b => cases e; cases h; exact ⟨rfl, rfl⟩
  | int b => cases e; cases h; exact ⟨rfl, rfl⟩
  | str b => cases e; cases h; exact ⟨rfl, rfl⟩
  | _ => cases e
theorem flatsOf_ok : ∀ {ds : List D} {vs us : List V}, flatsOf ds = some us → SVs K m H ds vs → vs = us ∧ us.all flatV = true
  | [], vs, us, e, h => by cases e; rw [show vs = [] from h]; exact ⟨rfl, rfl⟩
  | d :: ds, vs, us, e, h => by
    obtain ⟨v, r, rfl, a, b⟩ := (show ∃ v r, vs = v :: r ∧ SV K m H d v ∧ SVs K m H ds r from h)
    unfold flatsOf at e
    split at e
    · rename_i u us' e1 e2
      cases e
      obtain ⟨rfl, f1⟩ := flatOf_ok e1 a
      obtain ⟨rfl, f2⟩ := flatsOf_ok e2 b
      exact ⟨rfl, by rw [List.all_cons, f1, f2]; rfl⟩
    · cases e
theorem intsOf_ok : ∀ {ds : List D} {vs : List V} {ns : List Int}, intsOf ds = some ns → SVs K m H ds vs → vs = ns.map V.int
  | [], vs, ns, e, h => by cases e; rw [show vs = [] from h]; rfl
  | d :: ds, vs, ns, e, h => by
    obtain ⟨v, r, rfl, a, b⟩ := (show ∃ v r, vs = v :: r ∧ SV K m H d v ∧ SVs K m H ds r from h)
    cases d with
    | int i =>
      have e : (intsOf ds).map (i :: ·) = some ns := e
      cases z : intsOf ds with
      | none => rw [z] at e; cases e
      | some ns' =>
        rw [z] at e
        cases e
        cases a
        rw [intsOf_ok z b]
        rfl
    | _ => cases e
end
def inD : D2 := fun x y S => match flatOf x, (seqAt S y).bind flatsOf with
  | some u, some us => some (.bl (inV u us), S)
  | _, _ => none
def notInD : D2 := fun x y S => match flatOf x, (seqAt S y).bind flatsOf with
  | some u, some us => some (.bl (!inV u us), S)
  | _, _ => none
/-- a list that is read -/
def lstOf (S : Store) : D → Option (List D)
  | .fl xs => some xs
  | .obj n => lstAt S n
  | _ => none
theorem lstOf_ok {K : PySem.W.Frag} {G : Gx} {m : List Addr} {S : Store} {H : Hp} (s : Sim K G m S H) {d : D} {v : V} {xs : List D} (h : lstOf S d = some xs) (r : SV K m H d v) : ∃ p vs, v = .ref p ∧ SVs K m H xs vs ∧ SqL K H p vs := by
  cases d with
  | fl ys => cases h; obtain ⟨p, vs, e, q, r⟩ := r; exact ⟨p, vs, e, r, q.l⟩
  | obj n =>
    obtain ⟨a, e, hm⟩ := r
    obtain ⟨a', vs, h1, h2, h3⟩ := lstAt_ok s h
    rw [hm] at h1; cases h1
    exact ⟨a, vs, e, h3, SqL.of h2⟩
  | _ => cases h
def sumLD : DB := fun ds S => match ds with
  | [d] => ((lstOf S d).bind intsOf).map fun ns => (.int ns.sum, S)
  | _ => none
def maxI : List Int → Option Int
  | [] => none
  | i :: is => some (is.foldl max i)
def minI : List Int → Option Int
  | [] => none
  | i :: is => some (is.foldl min i)
theorem foldl_max_mem (is : List Int) : ∀ i, is.foldl max i = i ∨ is.foldl max i ∈ is := by
  induction is with
  | nil => intro i; exact .inl rfl
  | cons j is ih =>
    intro i
    rw [List.foldl_cons]
    rcases ih (max i j) with h | h
    · rcases Int.le_total i j with q | q
      · right; rw [h, Int.max_eq_right q]; exact List.mem_cons_self
      · left; rw [h, Int.max_eq_left q]
    · exact .inr (List.mem_cons_of_mem _ h)
theorem foldl_max_le (is : List Int) : ∀ i, i ≤ is.foldl max i ∧ ∀ y ∈ is, y ≤ is.foldl max i := by
  induction is with
  | nil => intro i; exact ⟨Int.le_refl _, fun _ h => nomatch h⟩
  | cons j is ih =>
    intro i
    rw [List.foldl_cons]
    obtain ⟨h1, h2⟩ := ih (max i j)
    refine ⟨Int.le_trans (Int.le_max_left i j) h1, fun y hy => ?_⟩
    rcases List.mem_cons.mp hy with rfl | hy
    · exact Int.le_trans (Int.le_max_right i y) h1
    · exact h2 y hy
theorem foldl_min_mem (is : List Int) : ∀ i, is.foldl min i = i ∨ is.foldl min i ∈ is := by
  induction is with
  | nil => intro i; exact .inl rfl
  | cons j is ih =>
    intro i
    rw [List.foldl_cons]
    rcases ih (min i j) with h | h
    · rcases Int.le_total i j with q | q
      · left; rw [h, Int.min_eq_left q]
      · right; rw [h, Int.min_eq_right q]; exact List.mem_cons_self
    · exact .inr (List.mem_cons_of_mem _ h)
theorem foldl_min_le (is : List Int) : ∀ i, is.foldl min i ≤ i ∧ ∀ y ∈ is, is.foldl min i ≤ y := by
  induction is with
  | nil => intro i; exact ⟨Int.le_refl _, fun _ h => nomatch h⟩
  | cons j is ih =>
    intro i
    rw [List.foldl_cons]
    obtain ⟨h1, h2⟩ := ih (min i j)
    refine ⟨Int.le_trans h1 (Int.min_le_left i j), fun y hy => ?_⟩
    rcases List.mem_cons.mp hy with rfl | hy
    · exact Int.le_trans h1 (Int.min_le_right i y)
    · exact h2 y hy
def maxD2 : DB := fun ds S => match ds with
  | [d] => (((lstOf S d).bind intsOf).bind maxI).map fun i => (.int i, S)
  | ds => maxD ds S
def minD2 : DB := fun ds S => match ds with
  | [d] => (((lstOf S d).bind intsOf).bind minI).map fun i => (.int i, S)
  | ds => minD ds S
def mulD2 : D2 := fun a b S => match a, b with
  | .obj n, .int k => (match lstAt S n with
    | some xs => if -1000 ≤ k ∧ k ≤ 1000 ∧ xs.length ≤ 1000 then some (newO (.lst (List.replicate k.toNat xs).flatten) S) else none
    | none => none)
  | a, b => mulD a b S
def diRevS (fe : DE) : DI := fun ρ S => (fe ρ S).bind fun d S1 => match d with
  | .tup xs => .ok ⟨xs.reverse, grdT⟩ S1
  | .fl xs => .ok ⟨xs.reverse, grdT⟩ S1
  | .obj n => (match lstAt S1 n with
    | some xs => .ok ⟨xs.reverse, grdL n xs⟩ S1
    | none => .bad)
  | _ => .bad
section
variable {X : Cx} {G : Gx} {W : WX} {e o : Expr} {fe fo : DE} {p pos apos : Pos}
theorem je_bad : JE X G W e dBad := ⟨fun pins s σ H Q I ⟨m, ρ, S, sr, sm, eo⟩ => eo.elim⟩
theorem js_bad {st : Stmt} : JS X G W st dBadS := ⟨fun pins s σ H E I ⟨m, ρ, S, sr, sm, q⟩ => q.elim⟩
theorem jop_in : JOp X G (compareOp .In) inD :=
  OpR.imp op_in_seq fun x y H Q ⟨m, S, a, b, d, S', sm, ra, rb, e, k⟩ => by
    unfold inD at e
    split at e
    · rename_i u us e1 e2
      cases e
      cases z : seqAt S b with
      | none => rw [z] at e2; cases e2
      | some ys =>
        rw [z] at e2
        obtain ⟨q, vs, rfl, sv, sq⟩ := seqAt_ok sm z rb
        obtain ⟨rfl, f1⟩ := flatOf_ok e1 ra
        obtain ⟨rfl, f2⟩ := flatsOf_ok e2 sv
        exact ⟨q, _, rfl, sq, f1, f2, k _ H m sm.refl sm rfl⟩
    · cases e
theorem jop_notIn : JOp X G (compareOp .NotIn) notInD :=
  OpR.imp op_notIn_seq fun x y H Q ⟨m, S, a, b, d, S', sm, ra, rb, e, k⟩ => by
    unfold notInD at e
    split at e
    · rename_i u us e1 e2
      cases e
      cases z : seqAt S b with
      | none => rw [z] at e2; cases e2
      | some ys =>
        rw [z] at e2
        obtain ⟨q, vs, rfl, sv, sq⟩ := seqAt_ok sm z rb
        obtain ⟨rfl, f1⟩ := flatOf_ok e1 ra
        obtain ⟨rfl, f2⟩ := flatsOf_ok e2 sv
        exact ⟨q, _, rfl, sq, f1, f2, k _ H m sm.refl sm rfl⟩
    · cases e
theorem jb_sum (hc : X.calm = true) : CallR X (.builtin "sum") (BR X.K G sumLD) := CallR.imp (cr_sum hc) fun vs H Q ⟨m, S, ds, d, S', sm, r, e, k⟩ => by
  unfold sumLD at e
  split at e
  · rename_i d0
    obtain ⟨v, rfl, q⟩ := svs1 r
    cases z : lstOf S d0 with
    | none => rw [z] at e; cases e
    | some xs =>
      rw [z] at e
      cases z2 : intsOf xs with
      | none => rw [show (some xs).bind intsOf = none from z2] at e; cases e
      | some ns =>
        rw [show (some xs).bind intsOf = some ns from z2] at e
        cases e
        obtain ⟨p, vs, rfl, sv, sq⟩ := lstOf_ok sm z q
        rw [intsOf_ok z2 sv] at sq
        exact ⟨p, ns, rfl, sq, k _ H m sm.refl sm rfl⟩
  · cases e
theorem jb_max2 (hc : X.calm = true) : CallR X (.builtin "max") (BR X.K G maxD2) := CallR.imp (CallR.or (cr_max hc) (jb_max (G := G) hc)) fun vs H Q ⟨m, S, ds, d, S', sm, r, e, k⟩ => by
  unfold maxD2 at e
  split at e
  · rename_i d0
    obtain ⟨v, rfl, q⟩ := svs1 r
    cases z : lstOf S d0 with
    | none => rw [z] at e; cases e
    | some xs =>
      rw [z] at e
      cases z2 : intsOf xs with
      | none => rw [show (some xs).bind intsOf = none from z2] at e; cases e
      | some ns =>
        rw [show (some xs).bind intsOf = some ns from z2] at e
        cases ns with
        | nil => cases e
        | cons i is =>
          cases e
          obtain ⟨p, vs, rfl, sv, sq⟩ := lstOf_ok sm z q
          rw [intsOf_ok z2 sv] at sq
          refine .inl ⟨p, i :: is, rfl, sq, by simp, fun mx h1 h2 => ?_⟩
          have e9 : mx = is.foldl max i := by
            have q1 := foldl_max_le is i
            have q2 := foldl_max_mem is i
            have a1 : mx ≤ is.foldl max i := by
              rcases List.mem_cons.mp h1 with rfl | h1
              · exact q1.1
              · exact q1.2 _ h1
            have a2 : is.foldl max i ≤ mx := by
              rcases q2 with q2 | q2
              · rw [q2]; exact h2 _ List.mem_cons_self
              · exact h2 _ (List.mem_cons_of_mem _ q2)
            omega
          subst e9
          exact k _ H m sm.refl sm rfl
  · exact .inr ⟨m, S, _, d, S', sm, r, e, k⟩
theorem jb_min2 (hc : X.calm = true) : CallR X (.builtin "min") (BR X.K G minD2) := CallR.imp (CallR.or (cr_min hc) (jb_min (G := G) hc)) fun vs H Q ⟨m, S, ds, d, S', sm, r, e, k⟩ => by
  unfold minD2 at e
  split at e
  · rename_i d0
    obtain ⟨v, rfl, q⟩ := svs1 r
    cases z : lstOf S d0 with
    | none => rw [z] at e; cases e
    | some xs =>
      rw [z] at e
      cases z2 : intsOf xs with
      | none => rw [show (some xs).bind intsOf = none from z2] at e; cases e
      | some ns =>
        rw [show (some xs).bind intsOf = some ns from z2] at e
        cases ns with
        | nil => cases e
        | cons i is =>
          cases e
          obtain ⟨p, vs, rfl, sv, sq⟩ := lstOf_ok sm z q
          rw [intsOf_ok z2 sv] at sq
          refine .inl ⟨p, i :: is, rfl, sq, by simp, fun mx h1 h2 => ?_⟩
          have e9 : mx = is.foldl min i := by
            have q1 := foldl_min_le is i
            have q2 := foldl_min_mem is i
            have a1 : is.foldl min i ≤ mx := by
              rcases List.mem_cons.mp h1 with rfl | h1
              · exact q1.1
              · exact q1.2 _ h1
            have a2 : mx ≤ is.foldl min i := by
              rcases q2 with q2 | q2
              · rw [q2]; exact h2 _ List.mem_cons_self
              · exact h2 _ (List.mem_cons_of_mem _ q2)
            omega
          subst e9
          exact k _ H m sm.refl sm rfl
  · exact .inr ⟨m, S, _, d, S', sm, r, e, k⟩
theorem jop_mul2 : JOp X G (binaryOp .Mult) mulD2 := by
  refine OpR.imp (OpR.or op_rep (jop_mul (G := G))) fun x y H Q ⟨m, S, a, b, d, S', sm, ra, rb, e, k⟩ => ?_
  unfold mulD2 at e
  split at e
  · rename_i n kk
    split at e
    · rename_i xs z
      split at e
      · rename_i hz
        cases e
        obtain ⟨a, rfl, hm⟩ := ra
        obtain ⟨a', vs, h1, h2, h3⟩ := lstAt_ok sm z
        rw [hm] at h1; cases h1
        cases rb
        refine .inl ⟨a, kk, vs, rfl, rfl, h2, by omega, by omega, ?_, fun p hp => ?_⟩
        · rw [← h3.len]
          have : xs.length * kk.toNat ≤ 1000 * 1000 := Nat.mul_le_mul hz.2.2 (by omega)
          exact size6 this
        · exact k _ _ (m ++ [p]) (Step.new sm hp) (sim_lst (rep_svs h3 kk.toNat) sm hp) (sv_new sm)
      · cases e
    · cases e
  · exact .inr ⟨m, S, _, _, d, S', sm, ra, rb, e, k⟩
/-- a name of the top whose value is data -/
theorem je_glob {x : Str} {u : Value} {d : D} (hm : X.mg x = some u) (hd : ∀ m H, ∃ v, RelV v u ∧ SV X.K m H d v) (hg : Gl X x := by rfl) (hdb : (x == ("__debug__" : Str)) = false := by decide) : JE X G W (.Name x pos) (dC d) := by
  obtain ⟨v0, r0, _⟩ := hd [] (fun _ => none)
  refine PE.imp (pe_glob hg hm r0 hdb) fun σ H Q ⟨m, ρ, S, sr, sm, eo⟩ => ?_
  obtain ⟨v, r, q⟩ := hd m H
  have : v = v0 := RelV.inj r r0
  subst this
  exact eo _ H m sm.refl sm q
end
end DL
set_option Elab.async false
set_option linter.all false
set_option maxRecDepth 100000
set_option maxHeartbeats 2000000
/-! DM5: the least of a list of data; reversed; index. -/
namespace DL
open PySem PySem.Spec PyProof.Rows L2 RT
mutual
def D.ofP : PyData → D
  | .none => .non
  | .bool b => .bl b
  | .int i => .int i
  | .str x => .str x
  | .tuple xs => .tup (D.ofPs xs)
  | .list xs => .fl (D.ofPs xs)
  | .dict _ => .non
def D.ofPs : List PyData → List D
  | [] => []
  | p :: ps => D.ofP p :: D.ofPs ps
end
mutual
theorem ofP_toP : ∀ {d : D} {p : PyData}, D.toP d = some p → D.ofP p = d
  | .non, p, e => by cases e; rfl
  | .bl b, p, e => by cases e; rfl
  | .int b, p, e => by cases e; rfl
  | .str b, p, e => by cases e; rfl
  | .tup xs, p, e => by
    have e : (D.toPs xs).map PyData.tuple = some p := e
    cases z : D.toPs xs with
    | none => rw [z] at e; cases e
    | some ps => rw [z] at e; cases e; simp only [D.ofP]; rw [ofPs_toPs z]
  | .fl xs, p, e => by
    have e : (D.toPs xs).map PyData.list = some p := e
    cases z : D.toPs xs with
    | none => rw [z] at e; cases e
    | some ps => rw [z] at e; cases e; simp only [D.ofP]; rw [ofPs_toPs z]
  | .obj n, p, e => by cases e
theorem ofPs_toPs : ∀ {ds : List D} {ps : List PyData}, D.toPs ds = some ps → D.ofPs ps = ds
  | [], ps, e => by cases e; rfl
  | d :: ds, ps, e => by
    have e : (match D.toP d, D.toPs ds with
      | some p, some ps => some (p :: ps)
      | _, _ => none) = some ps := e
    cases z1 : D.toP d with
    | none => rw [z1] at e; cases e
    | some p =>
      cases z2 : D.toPs ds with
      | none => rw [z1, z2] at e; cases e
      | some q => rw [z1, z2] at e; cases e; simp only [D.ofPs]; rw [ofP_toP z1, ofPs_toPs z2]
end
theorem toPs_at : ∀ {ds : List D} {ps : List PyData} {i : Nat} {d : D}, D.toPs ds = some ps → ds[i]? = some d → ∃ p, ps[i]? = some p ∧ D.toP d = some p
  | [], ps, i, d, e, h => by simp at h
  | d' :: ds, ps, i, d, e, h => by
    have e : (match D.toP d', D.toPs ds with
      | some p, some ps => some (p :: ps)
      | _, _ => none) = some ps := e
    cases z1 : D.toP d' with
    | none => rw [z1] at e; cases e
    | some p =>
      cases z2 : D.toPs ds with
      | none => rw [z1, z2] at e; cases e
      | some q =>
        rw [z1, z2] at e
        cases e
        cases i with
        | zero => simp at h; subst h; exact ⟨p, by simp, z1⟩
        | succ i =>
          obtain ⟨p', h1, h2⟩ := toPs_at z2 (i := i) (by simpa using h)
          exact ⟨p', by simpa using h1, h2⟩
/-- the least of alike data -/
def likeB (ps : List PyData) : Bool := (ps.all fun x => ps.all fun y => PySem.W.alike x y) && ps.all fun x => match x with
  | .none => false
  | _ => true
def minP : DB := fun ds S => match ds with
  | [d] => (match (lstOf S d).bind D.toPs with
    | some (p :: ps) => if likeB (p :: ps) = true ∧ PyData.depthAll (p :: ps) ≤ 60 then some (D.ofP (PySem.W.minD p ps), S) else none
    | _ => none)
  | _ => none
def minD3 : DB := fun ds S => match minD2 ds S with
  | some r => some r
  | none => minP ds S
theorem likeB_ok {ps : List PyData} (h : likeB ps = true) : PySem.W.AlikeAll ps := by
  unfold likeB at h
  rw [Bool.and_eq_true] at h
  refine ⟨fun x hx y hy => List.all_eq_true.mp (List.all_eq_true.mp h.1 x hx) y hy, fun x hx z => ?_⟩
  have := List.all_eq_true.mp h.2 x hx
  rw [z] at this
  cases this
section
variable {X : Cx} {G : Gx} {W : WX} {e o tg : Expr} {fe fo : DE} {p pos apos cpos : Pos}
theorem jb_minP (hc : X.calm = true) (hu : X.A.units + 64 < cLine) : CallR X (.builtin "min") (BR X.K G minP) := by
  intro pins s σ H vs us Q I r ⟨m, S, ds, d, S', sm, rs, e, k⟩
  unfold minP at e
  split at e
  · rename_i d0
    obtain ⟨v, rfl, q⟩ := svs1 rs
    cases z : lstOf S d0 with
    | none => rw [z] at e; cases e
    | some xs =>
      rw [z] at e
      split at e
      · rename_i p0 ps z2
        split at e
        · rename_i hz
          cases e
          obtain ⟨a, ws, rfl, sv, sq⟩ := lstOf_ok sm z q
          obtain ⟨its, rv, hl, _⟩ := I.list sq
          have z3 : D.toPs xs = some (p0 :: ps) := z2
          obtain ⟨as, hr⟩ := Dp.readsAll I (p0 :: ps) ws its (toPs_ok z3 sv) rv
          rw [Vals.ref1 r]
          refine PySem.W.min_list_data (I.ok.hd hc) hl.isList (by simpa using hr) (likeB_ok hz.1) (by have := hz.2; omega) fun i v' h' tk bs hi hrd hk => ?_
          have hi' : its[i]? = some v' := by simpa using hi
          have hlt : i < its.length := (List.getElem?_eq_some_iff.mp hi').1
          have hlw : i < ws.length := by rw [rv.length]; exact hlt
          have hlx : i < xs.length := by rw [sv.len]; exact hlw
          obtain ⟨u, h1, h2⟩ := sv.get (i := i) (d := xs[i]) (by simp [hlx])
          obtain ⟨u', h3, h4⟩ := rv.get h1
          rw [hi'] at h3
          cases h3
          obtain ⟨p', h5, h6⟩ := toPs_at z3 (i := i) (d := xs[i]) (by simp [hlx])
          obtain ⟨bs', hr'⟩ := Dp.reads I p' u v' (toP_ok h6 h2) h4
          have eq := (reads_det (fun b o e _ => hk b o e) hr' hrd).1
          rw [eq] at k
          rw [ofP_toP h6] at k
          exact ⟨u, H, I.kept hk, h4, k u H m sm.refl sm h2⟩
        · cases e
      · cases e
  · cases e
theorem jb_min3 (hc : X.calm = true) (hu : X.A.units + 64 < cLine) : CallR X (.builtin "min") (BR X.K G minD3) := CallR.imp (CallR.or (jb_min2 (G := G) hc) (jb_minP (G := G) hc hu)) fun vs H Q ⟨m, S, ds, d, S', sm, r, e, k⟩ => by
  unfold minD3 at e
  split at e
  · rename_i rr z
    cases e
    exact .inl ⟨m, S, ds, d, S', sm, r, z, k⟩
  · exact .inr ⟨m, S, ds, d, S', sm, r, e, k⟩
/-! ### reversed -/
theorem ji_revS (hm : X.mg "reversed" = none) (he : JE X G W e fe) (hg : Gl X "reversed" := by rfl) (hs : starEach [e] X.env = (false, eval e X.env) :: starEach [] X.env := by rfl) : JI X G W tg (.Call (.Name "reversed" p) [e] [] pos) (diRevS fe) :=
  PI.imp (pi_revA hg hm he hs) fun σ H R ⟨m, ρ, S, sr, sm, eo⟩ => ⟨m, ρ, S, sr, sm, EO.then (rel := SV X.K) eo fun d S1 v H1 m1 st1 sm1 r1 eo1 => by
    cases d with
    | tup xs =>
      obtain ⟨a, vs, rfl, q, r⟩ := r1
      refine ⟨a, vs, rfl, .inr ⟨q, eo1 _ H1 m1 sm1.refl sm1 ?_⟩⟩
      show Walk (ItvT X.K a vs.length) xs.reverse.length _ _
      rw [List.length_reverse, r.len]
      refine ⟨fun i H' hi ⟨m', S', st, sm', hg⟩ => ⟨hi, vs, vs[vs.length - 1 - i]'(by omega), sqT_step sm1 st q, by simp [show vs.length - 1 - i < vs.length by omega]⟩, fun H' _ => Nat.le_refl _, fun i H' x H'' hi _ hy m' S' st sm' hg' => ?_⟩
      obtain ⟨e', hx⟩ := hy
      subst e'
      have hx := hx vs (sqT_step sm1 st q)
      have hlt : xs.length - 1 - i < xs.length := by rw [r.len]; omega
      obtain ⟨u, h4, h5⟩ := r.get (i := xs.length - 1 - i) (d := xs[xs.length - 1 - i]) (by simp [hlt])
      rw [r.len, hx] at h4; cases h4
      refine ⟨xs[xs.length - 1 - i], ?_, sm'.refl, sm', h5.mono sm1 st⟩
      rw [List.getElem?_reverse (by rw [r.len]; exact hi)]
      simp [hlt]
    | fl xs =>
      obtain ⟨a, vs, rfl, q, r⟩ := r1
      refine ⟨a, vs, rfl, .inl ⟨q.l, eo1 _ H1 m1 sm1.refl sm1 ?_⟩⟩
      show Walk (Itv X.K a vs.length) xs.reverse.length _ _
      rw [List.length_reverse, r.len]
      refine ⟨fun i H' hi ⟨m', S', st, sm', hg⟩ => ⟨hi, vs, vs[vs.length - 1 - i]'(by omega), (sqF_step sm1 st q).l, by simp [show vs.length - 1 - i < vs.length by omega]⟩, fun H' _ => Nat.le_refl _, fun i H' x H'' hi _ hy m' S' st sm' hg' => ?_⟩
      obtain ⟨e', hx⟩ := hy
      subst e'
      have hx := hx vs (sqF_step sm1 st q).l
      have hlt : xs.length - 1 - i < xs.length := by rw [r.len]; omega
      obtain ⟨u, h4, h5⟩ := r.get (i := xs.length - 1 - i) (d := xs[xs.length - 1 - i]) (by simp [hlt])
      rw [r.len, hx] at h4; cases h4
      refine ⟨xs[xs.length - 1 - i], ?_, sm'.refl, sm', h5.mono sm1 st⟩
      rw [List.getElem?_reverse (by rw [r.len]; exact hi)]
      simp [hlt]
    | obj n =>
      dsimp only at eo1
      cases z : lstAt S1 n with
      | none => rw [z] at eo1; exact eo1.elim
      | some xs =>
        rw [z] at eo1
        obtain ⟨a, rfl, hma⟩ := r1
        obtain ⟨a', vs, h1, h2, r⟩ := lstAt_ok sm1 z
        rw [hma] at h1; cases h1
        refine ⟨a, vs, rfl, .inl ⟨SqL.of h2, eo1 _ H1 m1 sm1.refl sm1 ?_⟩⟩
        have key : ∀ H' m' S', Step m1 H1 m' H' → Sim X.K G m' S' H' → grdL n xs S' = true → ∃ (us : List V), H' a = some (.lst us) ∧ SVs X.K m' H' xs us := by
          intro H' m' S' st sm' hg
          obtain ⟨a', us, h1, h2, h3⟩ := lstAt_ok sm' (grdL_ok hg)
          rw [st.get hma] at h1; cases h1
          exact ⟨us, h2, h3⟩
        show Walk (Itv X.K a vs.length) xs.reverse.length _ _
        rw [List.length_reverse, ← r.len]
        refine ⟨fun i H' hi ⟨m', S', st, sm', hg⟩ => ?_, fun H' _ => Nat.le_refl _, fun i H' x H'' hi _ hy m' S' st sm' hg' => ?_⟩
        · obtain ⟨us, h3, h4⟩ := key H' m' S' st sm' hg
          have hl := h4.len
          exact ⟨hi, us, us[xs.length - 1 - i]'(by omega), SqL.of h3, by simp [show xs.length - 1 - i < us.length by omega]⟩
        · obtain ⟨us, h3, h4⟩ := key H' m' S' st sm' hg'
          obtain ⟨e', hx⟩ := hy
          subst e'
          have hx := hx us (SqL.of h3)
          have hlt : xs.length - 1 - i < xs.length := by omega
          obtain ⟨u, h5, h6⟩ := h4.get (i := xs.length - 1 - i) (d := xs[xs.length - 1 - i]) (by simp [hlt])
          rw [hx] at h5; cases h5
          refine ⟨xs[xs.length - 1 - i], ?_, sm'.refl, sm', h6⟩
          rw [List.getElem?_reverse hi]
          simp [hlt]
    | _ => exact eo1.elim⟩
end
end DL
set_option Elab.async false
set_option linter.all false
set_option maxRecDepth 100000
set_option maxHeartbeats 4000000
/-! DM6: an own exception whose __init__ says super().__init__(text) and keeps what it got. -/
namespace DL
open PySem PySem.Spec PyProof.Rows L2 PySem.W PySem.Calls
/-- the text of such an __init__ -/
def initBody (prm fld : Str) (txt : Str) (j : Nat) (p0 p1 ap p2 p3 p4 p5 p6 p7 p8 : Pos) : List Stmt :=
  [.Expr (.Call (.Attribute (.Call (.Name "super" p0) [] [] p1) "__init__" ap) [.Constant (.str txt) j p2] [] p3) p4, .Assign [.Attribute (.Name "self" p5) fld p6] (.Name prm p7) p8]
section
variable {prog : Program} {w : World} {K : PySem.W.Frag} {A : Around} {s : Shared} {R : Result → Shared → Prop}
theorem init_raw {f C cc cda a t0 : Addr} {u : Value} {prm fld txt : Str} {j : Nat} {p0 p1 ap p2 p3 p4 p5 p6 p7 p8 : Pos} {name qual : Str} {params : Arguments} {scope : Scope} {dV kV doc pm ct oc ccl cl : Value} {an od cdd cld : Option Addr} {osl ccs csl : Array (Option Value)} {ar : Arg} {vs : Array Value} {file : Str} {tf : Tok} {mg mb : Str → Option Value}
    (X : K.In s.heap) (lim : s.heap.NoLimit) (hroom : A.depth < recursionLimit)
    (hlk : K.lookup f = some ⟨oc, od, .func (ksFn name qual params (initBody prm fld txt j p0 p1 ap p2 p3 p4 p5 p6 p7 p8) scope dV kV doc pm an (.ref cda) ct cc), osl⟩) (hcd : codeIn K (.ref cda) qual = true)
    (hbind : BindsTo s (ksFn name qual params (initBody prm fld txt j p0 p1 ap p2 p3 p4 p5 p6 p7 p8) scope dV kV doc pm an (.ref cda) ct cc) ⟨[.ref a, u], []⟩ [(("self" : Str), .ref a), (prm, u)])
    (hne : (prm == ("self" : Str)) = false) (hcell : ∀ x ∈ scope.names, x.2 ≠ .cell) (hself : scope.names.lookup ("self" : Str) = some .local) (hprm : scope.names.lookup prm = some .local)
    (hco : scope.isCoroutine = false) (hgen : scope.isGenerator = false) (hk : scope.kind = .function) (hks : scope.names.lookup ("super" : Str) = some .globalImplicit) (hkc : scope.names.lookup ("__class__" : Str) = some .free)
    (hp : (params.posonlyargs ++ params.args).head? = some ar) (har : ar.arg = ("self" : Str)) (hcode : K.lookup cda = some ⟨ccl, cdd, .fields vs, ccs⟩) (hvs : vs[2]? = some (.str file tf)) (hfile : ((prog.main.file : Str) == file) = true)
    (htop : (prog.main.scope.names.lookup ("super" : Str)).isSome = false) (hG : s.heap.Ns mainGlobals mg) (hmg : mg ("super" : Str) = none) (hB : s.heap.Ns builtinsNs mb) (hmb : mb ("super" : Str) = some (.type "super"))
    (hcc : K.lookup cc = some ⟨cl, cld, .cell (some (.ref C)), csl⟩) (T : OexC K C) (hsub : mroIn K C (.ref C) = some true) (hop : nsIn K cStatics "thirdparty.any" = some none) (hsup : ks_superIn K C C "__init__" = some (some (.builtin "ValueError.__init__")))
    (hVE : subIn K (.ref C) (.type "ValueError") = some true) (hfld : findIn K (.ref C) fld = some none)
    (he : s.heap.get? a = some ({ cls := .ref C, dict := none, data := .fields #[.ref t0, .none, .none, .none, .bool false, .none] } : Obj))
    (hKa : K.lookup a = none) (hdp : (prm == ("__debug__" : Str)) = false) {pl : Env → Sem Bool}
    (hev : ∀ env : Env, eval (.Call (.Attribute (.Call (.Name "super" p0) [] [] p1) "__init__" ap) [.Constant (.str txt) j p2] [] p3) env = (do
      let ov ← attributeBase (.Call (.Name "super" p0) [] [] p1) "__init__" env (eval (.Call (.Name "super" p0) [] [] p1) env)
      standAt ap.atName
      let (f, first) ← holding [ov] (getMethod ov "__init__" (pl env))
      callWith p3 f first (backTo p3 (starEach [.Constant (.str txt) j p2] env)) []))
    (hsw1 : ∀ env : Env, swapsWith (.Call (.Attribute (.Call (.Name "super" p0) [] [] p1) "__init__" ap) [.Constant (.str txt) j p2] [] p3) none p4.line env = pure false)
    (hsw2 : ∀ env : Env, swapsWith (.Name prm p7) (some (.Attribute (.Name "self" p5) fld p6)) p8.line env = pure false)
    (hR : ∀ h' tk dx t1, (∀ b o, b ≠ a → s.heap.get? b = some o → h'.get? b = some o) → s.heap.objs.size ≤ dx → dx ≠ a → h'.get? a = some ({ cls := .ref C, dict := some dx, data := .fields #[.ref t1, .none, .none, .none, .bool false, .none] } : Obj) →
      (∃ mA, h'.Ns1 dx mA ∧ ∀ y, mA y = if y = fld then some u else none) → R (.ok (.ret .none)) { s with heap := h', toks := tk }) :
    codeAny (model prog w) A (.call (.ref f) ⟨[.ref a, u], []⟩) R s := by
  have hbd := hbind
  refine ks_codeAny_call_defAt (fd := ksFn name qual params (initBody prm fld txt j p0 p1 ap p2 p3 p4 p5 p6 p7 p8) scope dV kV doc pm an (.ref cda) ct cc) (body := initBody prm fld txt j p0 p1 ap p2 p3 p4 p5 p6 p7 p8) (binds := [(("self" : Str), .ref a), (prm, u)]) hroom (X _ _ hlk) rfl lim (codeRec_of X hcd) rfl hbind hcell ?hloc (fun h1 hns1 hk1 => ?_) hco hgen hk
  case hloc =>
    intro x hx
    rcases List.mem_cons.mp hx with rfl | hx
    · exact hself
    · rw [List.mem_singleton.mp hx]; exact hprm
  have X1 : K.In h1 := X.keeps hk1
  have he1 : h1.get? a = some ({ cls := .ref C, dict := none, data := .fields #[.ref t0, .none, .none, .none, .bool false, .none] } : Obj) := hk1 _ _ he
  obtain ⟨nm, q, Nn, bs, bm, sn, sub, ab, col, dd, k0, k1, k2, k3, k5, hC, hbm⟩ := T.cls
  have hcl : clsIn K C = some { name := nm, bases := bs, mro := .ref C :: bm, ns := Nn, qualname := q, hasDict := true, slotNames := sn, subclasses := sub, abstract := ab, collection := col, hasDel := false } := by unfold clsIn; rw [hC] <;> rfl
  have hD1 := X1 _ _ hC
  have vs1 : (fun x => ([(("self" : Str), Value.ref a), (prm, u)]).reverse.lookup x) ("self" : Str) = some (.ref a) := by
    show List.lookup ("self" : Str) [(prm, u), (("self" : Str), Value.ref a)] = _
    rw [List.lookup_cons]
    have : (("self" : Str) == prm) = false := by
      have := hne
      rw [Bool.eq_false_iff] at this ⊢
      intro z
      exact this (by rw [beq_iff_eq] at z ⊢; exact z.symm)
    rw [this]
    rfl
  have vs2 : (fun x => ([(("self" : Str), Value.ref a), (prm, u)]).reverse.lookup x) prm = some u := by
    show List.lookup prm [(prm, u), (("self" : Str), Value.ref a)] = _
    rw [List.lookup_cons, beq_self_eq_true]
  have haC : a ≠ C := fun z => by
    rw [z, hD1] at he1
    cases he1
  refine ks_wpAt_execs_cons (ks_wpAt_Expr_any (ks_wpAt_MethodCall ?_ (hev _)) ?hia (hsw1 _))
  case hia =>
    have ek : (callEnv (ksFn name qual params (initBody prm fld txt j p0 p1 ap p2 p3 p4 p5 p6 p7 p8) scope dV kV doc pm an (.ref cda) ct cc) s.heap.objs.size f).scope.kind = .function := hk
    unfold interactive
    rw [ek]
    rfl
  refine ks_wpAt_super_base (env := callEnv (ksFn name qual params (initBody prm fld txt j p0 p1 ap p2 p3 p4 p5 p6 p7 p8) scope dV kV doc pm an (.ref cda) ct cc) s.heap.objs.size f) hks hkc rfl rfl (X1 _ _ hlk) rfl hp rfl (X1 _ _ hcode) rfl hvs hfile htop ?_
  refine ks_loadName_global hk hks (loadGlobal_builtin (hG.keeps hk1) hmg (hB.keeps hk1) hmb ⟨rfl, ?_⟩)
  refine wpAny_loadName_free hk hkc rfl ⟨_, X1 _ _ hcc, rfl⟩ ?_
  rw [har]
  refine wpAny_loadName_local hk hself hns1 vs1 ?_
  refine ks_wpAny_isType_cls hD1 rfl ⟨rfl, ?_⟩
  refine ks_wpAny_call_super hD1 rfl he1 rfl (fun c e => by cases e) (looks_mroIn X1 hsub) (fun h2 e2 k2 => ?_)
  have X2 : K.In h2 := X1.keeps k2
  have he2 := k2 _ _ he1
  have Ia : InstAt h2 a ({ cls := .ref C, dict := none, data := .fields #[.ref t0, .none, .none, .none, .bool false, .none] } : Obj) C none := ⟨he2, rfl, rfl, trivial⟩
  refine kxs_getMethod kxs_ValueError e2 (looks_opaque X2 hop) (l₀ := .ref C :: bm) (fun A Q E s k q => wpAny_bind ((looks_clsIn X2 hcl) A _ E s k (wpAny_pure q))) rfl X2 ?hf (Ia.type.andThen (looks_subIn X2 hVE)) haC rfl ?_
  case hf =>
    unfold ks_superIn at hsup
    rw [hcl] at hsup
    exact hsup
  -- the bound __init__ at h2's end
  have hu3 : (h2.push (kxs_mw "ValueError.__init__" a)).get? h2.objs.size = some (kxs_mw "ValueError.__init__" a) := Heap.get?_push_at rfl rfl
  have k3' : ∀ b o, h2.get? b = some o → (h2.push (kxs_mw "ValueError.__init__" a)).get? b = some o := fun b o e => Heap.get?_push_of_some _ e
  refine kxs_callWith (i := "ValueError.__init__") (x := a) rfl (evalArgs_plain ?_)
  refine Calls.spliced_cons (@Calls.Constant_str _ _ _ _ _ txt j p2 _ (Calls.spliced_nil ⟨hu3, ?_⟩))
  refine wpAny_call (codeAny_of_tree ?_)
  show wpAny _ _ (callAny (.ref h2.objs.size) ⟨_, []⟩) _ _ _
  simp only [callAny]
  refine wpAny_bind (wpAny_load hu3 ?_)
  simp only [kxs_mw, show (Value.type "method-wrapper" == Value.type "method" || Value.type "method-wrapper" == Value.type "builtin_function_or_method" || Value.type "method-wrapper" == Value.type "method-wrapper") = true by decide, if_true]
  refine KFB.if_so (by decide) ?_
  refine wpAny_bind (check_bound_init F.excBase_ValueError.toExcCallFacts (k3' _ _ (X2 _ _ hC)) (k3' _ _ he2) rfl ?_)
  refine wpAny_bind (wpAny_pure (wpAny_pure ?_))
  refine ⟨plainId_quiet F.excBase_ValueError.init.plain _, codeAny_builtin F.excBase_ValueError.initEntry ?_⟩
  refine exc_init_tree (cls := .ref C) (t0 := t0) (dv := none) (c2 := .none) (c3 := .none) (b4 := .bool false) (k3' _ _ he2) (by simp [sizeLine_eq]) fun h4 k4 e4 _ => ?_
  have halt : a < s.heap.objs.size := Heap.lt_size he
  have kk : ∀ b o, b ≠ a → h1.get? b = some o → h4.get? b = some o := fun b o hb e => k4 b o hb (k3' _ _ (k2 _ _ e))
  have X4 : K.In h4 := fun b o e => kk b o (fun z => by rw [z, hKa] at e; cases e) (X1 b o e)
  have hns4 : h4.Ns s.heap.objs.size (fun x => ([(("self" : Str), Value.ref a), (prm, u)]).reverse.lookup x) := by
    obtain ⟨oL, es, ep, hoL, r⟩ := hns1
    exact ⟨oL, es, ep, kk _ _ (Nat.ne_of_gt halt) hoL, r⟩
  refine ks_wpAt_execs_cons (ks_wpAt_Assign_Attr (wpAt_of_wpAny (wpAny_Name (wpAny_loadName_local hk hprm hns4 vs2 ?_) hdp)) (hsw2 _))
  refine wpAny_Name (wpAny_loadName_local hk hself hns4 vs1 ?_) rfl
  refine PySem.W.set_plain X4 (ox := { cls := .ref C, dict := none, data := .fields #[.ref _, .none, .none, .none, .bool false, .none] }) (od := none) ⟨e4, rfl, rfl, trivial⟩ T.sa ?_
  refine PySem.HandSPX.exc_osa X4 e4 hcl (show PySem.HandSPX.refsVE (.ref C :: bm) = true from hbm) rfl hfld (fun h' tk' dx k dn dne hx hn => ?_)
  show PySem.wpAt _ _ _ (execs [] _) _ _ _
  rw [execs_nil]
  refine wpAt_of_wpAny (wpAny_pure ?_)
  have sz4 : s.heap.objs.size ≤ h4.objs.size := by
    obtain ⟨oL, es, ep, hoL, r⟩ := hns4
    exact Nat.le_of_lt (Heap.lt_size hoL)
  exact hR h' tk' dx _ (fun b o hb e => k b o hb (kk b o hb (hk1 b o e))) (Nat.le_trans sz4 dn) dne hx ⟨_, hn, fun y => rfl⟩
end
end DL
set_option Elab.async false
set_option linter.all false
set_option maxRecDepth 100000
set_option maxHeartbeats 4000000
/-! DM7: raise of such an exception. -/
namespace DL
open PySem PySem.Spec PyProof.Rows L2 PySem.W PySem.Calls
/-- what the written part says of a class whose __init__ is of that text -/
structure SupC (K : PySem.W.Frag) (prog : Program) (C : Addr) (fld : Str) : Prop where
  T : OexC K C
  ex : ∃ (f cc cda : Addr) (prm txt : Str) (j : Nat) (p0 p1 ap p2 p3 p4 p5 p6 p7 p8 : Pos) (name qual : Str) (params : Arguments) (scope : Scope) (dV kV doc pm ct oc ccl cl : Value) (an od cdd cld : Option Addr) (osl ccs csl : Array (Option Value)) (ar : Arg) (vs : Array Value) (file : Str) (tf : Tok) (pl : Env → Sem Bool),
    findIn K (.ref C) "__init__" = some (some (.ref f)) ∧ typeIn K (.ref f) = some (.type "function") ∧
    K.lookup f = some ⟨oc, od, .func (ksFn name qual params (initBody prm fld txt j p0 p1 ap p2 p3 p4 p5 p6 p7 p8) scope dV kV doc pm an (.ref cda) ct cc), osl⟩ ∧ codeIn K (.ref cda) qual = true ∧
    (∀ u v : Value, bindArgs (ksFn name qual params (initBody prm fld txt j p0 p1 ap p2 p3 p4 p5 p6 p7 p8) scope dV kV doc pm an (.ref cda) ct cc) ⟨[u, v], []⟩ = pure [(("self" : Str), u), (prm, v)]) ∧
    (prm == ("self" : Str)) = false ∧ (∀ x ∈ scope.names, x.2 ≠ .cell) ∧ scope.names.lookup ("self" : Str) = some .local ∧ scope.names.lookup prm = some .local ∧
    scope.isCoroutine = false ∧ scope.isGenerator = false ∧ scope.kind = .function ∧ scope.names.lookup ("super" : Str) = some .globalImplicit ∧ scope.names.lookup ("__class__" : Str) = some .free ∧
    (params.posonlyargs ++ params.args).head? = some ar ∧ ar.arg = ("self" : Str) ∧ K.lookup cda = some ⟨ccl, cdd, .fields vs, ccs⟩ ∧ vs[2]? = some (.str file tf) ∧ ((prog.main.file : Str) == file) = true ∧
    (prog.main.scope.names.lookup ("super" : Str)).isSome = false ∧ K.lookup cc = some ⟨cl, cld, .cell (some (.ref C)), csl⟩ ∧ mroIn K C (.ref C) = some true ∧ nsIn K cStatics "thirdparty.any" = some none ∧
    ks_superIn K C C "__init__" = some (some (.builtin "ValueError.__init__")) ∧ subIn K (.ref C) (.type "ValueError") = some true ∧ findIn K (.ref C) fld = some none ∧ (prm == ("__debug__" : Str)) = false ∧
    (∀ env : Env, eval (.Call (.Attribute (.Call (.Name "super" p0) [] [] p1) "__init__" ap) [.Constant (.str txt) j p2] [] p3) env = (do
      let ov ← attributeBase (.Call (.Name "super" p0) [] [] p1) "__init__" env (eval (.Call (.Name "super" p0) [] [] p1) env)
      standAt ap.atName
      let (f, first) ← holding [ov] (getMethod ov "__init__" (pl env))
      callWith p3 f first (backTo p3 (starEach [.Constant (.str txt) j p2] env)) [])) ∧
    (∀ env : Env, swapsWith (.Call (.Attribute (.Call (.Name "super" p0) [] [] p1) "__init__" ap) [.Constant (.str txt) j p2] [] p3) none p4.line env = pure false) ∧
    (∀ env : Env, swapsWith (.Name prm p7) (some (.Attribute (.Name "self" p5) fld p6)) p8.line env = pure false)
theorem boot_super : bootBuiltins "super" = some (.type "super") := by decide +kernel
def tMkS (C : Addr) (fld : Str) (ta : TA) : L2.St → Hp → XK → Prop := fun σ H Q => ta σ H fun vs H1 => ∃ v, vs = [v] ∧ ∀ dx, H1 dx = none → Q (.ref C) (some dx) (upd H1 dx (.xd [(fld, v)]))
theorem pmk_sup {X : Cx} {x fld : Str} {C : Addr} {k : Nat} {e : Expr} {ta : TA} {p pos : Pos} (SC : SupC X.K X.prog C fld) (hr : Room (k + 1) X.A) (hg : Gl X x) (hm : X.mg x = some (.ref C)) (hms : X.mg "super" = none) (ha : PA X [e] ta)
    (hdb : (x == ("__debug__" : Str)) = false := by decide) (he : starEach [e] X.env = (false, eval e X.env) :: starEach [] X.env := by rfl) (hpl : (backTo pos (starEach [] X.env)).any (·.1) = false := by rfl) :
    PMk X (.Call (.Name x p) [e] [] pos) (tMkS C fld ta) := by
  intro pins s σ H Q I h
  have T := SC.T
  obtain ⟨fI, cc, cda, prm, txt, j, p0, p1, ap, p2, p3, p4, p5, p6, p7, p8, name, qual, params, scope, dV, kV, doc, pm, ct, oc, ccl, cl, an, od, cdd, cld, osl, ccs, csl, ar, vsC, file, tf, pl, iC, tI, hlk, hcd, hbind, hne, hcell, hself, hprm, hco, hgen, hk, hks, hkc, hp, har, hcode, hvs, hfile, htop, hcc, hsub, hop, hsup, hVE, hfld, hdp, hev, hsw1, hsw2⟩ := SC.ex
  obtain ⟨nm, q, N, bs, bm, sn, sub, ab, col, dd, k0, k1, k2, k3, k5, hC, hbm⟩ := T.cls
  refine wpAny_Call_Name_kw (ld_glob I hg hm ?_ hdb)
  refine PySem.W.callWith_K (h₀ := X.base) I.ok.mod.kin T.kC (thn (ha.run pos pins s σ H _ I h) fun us s1 ⟨vs, H1, I1, r1, q1⟩ => ⟨I1.kIn, ?_⟩) he hpl
  show wpAny _ _ (call (.ref C) us) _ _ _
  obtain ⟨v, rfl, q1⟩ := q1
  obtain ⟨u, ru, eu⟩ : ∃ u, RelV v u ∧ us = [u] := by
    cases r1 with
    | cons ru r2 => cases r2; exact ⟨_, ru, rfl⟩
  subst eu
  obtain ⟨hp1, g, dr, tk, os⟩ := s1
  have hsz : hp1.objs.size ≤ hp1.objs.size + 1 := Nat.le_succ _
  have hn : H1 (hp1.objs.size + 1) = none := I1.hok.fresh hsz
  have kk : ∀ b o, hp1.get? b = some o → ((hp1.push (PySem.W.kdv_tup [u])).push (PySem.HandSPX.excO C hp1.objs.size)).get? b = some o := fun b o e => Heap.get?_push_of_some _ (Heap.get?_push_of_some _ e)
  have hget : ((hp1.push (PySem.W.kdv_tup [u])).push (PySem.HandSPX.excO C hp1.objs.size)).get? (hp1.objs.size + 1) = some (PySem.HandSPX.excO C hp1.objs.size) := by heap_get
  have I2 : Inv X pins σ (upd H1 (hp1.objs.size + 1) (exo (hp1.objs.size + 1) C none)) ⟨(hp1.push (PySem.W.kdv_tup [u])).push (PySem.HandSPX.excO C hp1.objs.size), g, dr, tk, os⟩ :=
    I1.laid (t' := tk) (a := hp1.objs.size + 1) (o := exo (hp1.objs.size + 1) C none) (h' := (hp1.push (PySem.W.kdv_tup [u])).push (PySem.HandSPX.excO C hp1.objs.size)) kk hsz (exo_ok hget)
  obtain ⟨mb, hb1, hb2⟩ := I1.mod.blt
  have hKa : X.K.lookup (hp1.objs.size + 1) = none := by
    cases z : X.K.lookup (hp1.objs.size + 1) with
    | none => rfl
    | some o => exact absurd (Heap.lt_size (I1.kIn _ _ z)) (by show ¬ hp1.objs.size + 1 < hp1.objs.size; omega)
  refine wpAny_call (PySem.HandSPX.call_own F.excBase_ValueError (fun Y => PySem.HandSPX.refsVE_contains Y bm hbm) (I1.kIn _ _ hC) (PySem.W.looks_findIn I1.kIn iC) (fun self => PySem.W.bind_fn I1.kIn self tI) (by simp [sizeLine_eq]) ?_)
  refine init_raw (mg := X.mg) (mb := mb) I2.kIn I2.nolimit (hr.make C [u] []).depth hlk hcd (BindsTo.of_eq (hbind _ _)) hne hcell hself hprm hco hgen hk hks hkc hp har hcode hvs hfile htop ((I2.mod.glob.keeps I2.bk)) hms (hb1.keeps I2.bk) ((hb2 _ (by decide)).trans boot_super) hcc T hsub hop hsup hVE hfld hget hKa hdp hev hsw1 hsw2 ?_
  intro h' tk' dx t1 kp hdx hda hx hnA
  obtain ⟨mA, hn1, hmA⟩ := hnA
  have hdx' : hp1.objs.size ≤ dx := by
    have e1 : ((hp1.push (PySem.W.kdv_tup [u])).push (PySem.HandSPX.excO C hp1.objs.size)).objs.size = hp1.objs.size + 1 + 1 := by rw [Heap.size_push, Heap.size_push]
    have : ((hp1.push (PySem.W.kdv_tup [u])).push (PySem.HandSPX.excO C hp1.objs.size)).objs.size ≤ dx := hdx
    exact Nat.le_trans (by omega) this
  have hd1 : H1 dx = none := I1.hok.fresh hdx'
  have hd2 : upd H1 (hp1.objs.size + 1) (exo (hp1.objs.size + 1) C none) dx = none := I2.hok.fresh hdx
  have ea0 : upd H1 (hp1.objs.size + 1) (exo (hp1.objs.size + 1) C none) (hp1.objs.size + 1) = some (exo (hp1.objs.size + 1) C none) := upd_same
  generalize hA : hp1.objs.size + 1 = aa at *
  generalize hH : upd H1 aa (exo aa C none) = Ha at *
  generalize hh2 : (hp1.push (PySem.W.kdv_tup [u])).push (PySem.HandSPX.excO C hp1.objs.size) = h2 at *
  have na : ∀ {b : Addr}, Ha b = none → b ≠ aa := fun {b} n z => by
    rw [z, ea0] at n
    cases n
  have nd : ∀ {b : Addr} {o : Obj}, h2.get? b = some o → b ≠ dx := fun {b o} e => Nat.ne_of_lt (Nat.lt_of_lt_of_le (Heap.lt_size e) hdx)
  have un2 : Un (frs X.stack) [] Ha (upd (upd Ha dx (exd dx [(fld, v)])) aa (exo aa C (some dx))) h2 h' := {
    keep := fun b o e n _ _ => kp b o (na n) e
    slot := fun b o e n _ _ => ⟨o.slots, kp b o (na n) e⟩
    free := fun b o e n _ => by rw [upd_ne (na n), upd_ne (nd e)]; exact n
    there := fun b o e _ => by
      by_cases hb : b = aa
      · exact ⟨_, by rw [hb]; exact hx⟩
      · exact ⟨o, kp b o hb e⟩
    tups := fun b xs e => by rw [upd_ne (at_ne ea0 e exo_tup), upd_ne (ne_of_none e hd2)]; exact e
    frzs := fun b o z e => by rw [upd_ne (at_ne ea0 e exo_frz), upd_ne (ne_of_none e hd2)]; exact e
    tbls := fun b ps e => ⟨#[], by rw [upd_ne (at_ne ea0 e exo_tbl), upd_ne (ne_of_none e hd2), e]; simp⟩ }
  have hok2 : HOk X.prog X.w (upd (upd Ha dx (exd dx [(fld, v)])) aa (exo aa C (some dx))) h' := by
    intro b o e
    by_cases hb : b = aa
    · rw [hb, upd_same] at e
      cases e
      rw [hb]
      exact exo_ok hx
    · rw [upd_ne hb] at e
      by_cases hd : b = dx
      · rw [hd, upd_same] at e
        cases e
        rw [hd]
        refine exd_ok hn1 fun y => ?_
        rw [hmA y]
        exact relO_put (fs := []) (mA := fun _ => none) ru (fun g => True.intro) y
      · rw [upd_ne hd] at e
        refine (I2.hok b o e).stay (fun c z hc e3 => kp c z ?_ e3) (fun c hc => by rw [upd_ne (at_ne ea0 hc exo_own), upd_ne (ne_of_none hc hd2)]; exact hc) (fun c xs hc => by rw [upd_ne (at_ne ea0 hc exo_tup), upd_ne (ne_of_none hc hd2)]; exact hc)
        rcases hc with hc | hc
        · rw [hc]; exact hb
        · exact at_ne ea0 hc exo_own
  have eaF : upd (upd Ha dx (exd dx [(fld, v)])) aa (exo aa C (some dx)) aa = some (exo aa C (some dx)) := upd_same
  have edF : upd (upd Ha dx (exd dx [(fld, v)])) aa (exo aa C (some dx)) dx = some (exd dx [(fld, v)]) := by rw [upd_ne hda, upd_same]
  subst hH
  refine ⟨rfl, mk_end (raises_own T.exC T.tyC) I1 hsz kk un2 hok2 rfl I1.bare eaF edF hd1 ?_⟩
  have eH : upd (del (upd (upd (upd H1 aa (exo aa C none)) dx (exd dx [(fld, v)])) aa (exo aa C (some dx))) aa) dx (.xd [(fld, v)]) = upd H1 dx (.xd [(fld, v)]) := by
    funext b
    by_cases h1 : b = dx
    · rw [h1, upd_same, upd_same]
    · rw [upd_ne h1, upd_ne h1]
      by_cases h2 : b = aa
      · rw [h2, del_same, hn]
      · rw [del_ne h2, upd_ne h2, upd_ne h1, upd_ne h2]
  rw [eH]
  exact q1 dx hd1
/-- raise C(e) -/
def dRaiseI (c : String) (fe : DE) : DS := fun ρ S => liftS (fe ρ S) ρ fun _ S1 => .exn ⟨c⟩ ρ S1
section
variable {X : Cx} {G : Gx} {W : WX} {e : Expr} {fe : DE} {p pos pos' : Pos}
theorem js_raiseI {x fld : Str} {c : String} {k : Nat} (hc : X.calm = true) (tk : Takes X W) (SC : SupC X.K X.prog (G.cA c) fld) (hr : Room (k + 1) X.A) (hm : X.mg x = some (.ref (G.cA c))) (hms : X.mg "super" = none) (he : JE X G W e fe) (hg : Gl X x := by rfl)
    (hdb : (x == ("__debug__" : Str)) = false := by decide) (hs : starEach [e] X.env = (false, eval e X.env) :: starEach [] X.env := by rfl) (hpl : (backTo pos (starEach [] X.env)).any (·.1) = false := by rfl) :
    JS X G W (.Raise (some (.Call (.Name x p) [e] [] pos)) none pos') (dRaiseI c fe) :=
  PS.imp (ps_raise hc tk (pmk_sup SC hr hg hm hms (ja_cons he ja_nil hs) hdb hs hpl)) fun E σ H ⟨m, ρ, S, sr, sm, q⟩ => ⟨m, ρ, S, sr, sm, by
    unfold daCons daNil
    unfold dRaiseI at q
    cases z : fe ρ S with
    | bad => rw [z] at q; exact q.elim
    | exn x S1 => rw [z] at q; exact fun cls dx H' m' st sm' xo => q cls dx σ H' m' st sm' (sr.mono sm st) xo
    | ok d S1 =>
      rw [z] at q
      simp only [Out.bind_ok] at q ⊢
      intro vs H1 m1 st1 sm1 r1
      obtain ⟨v, rfl, rv⟩ := svs1 r1
      exact ⟨v, rfl, fun dx hdx => q _ _ σ _ m1 (st1.trans (Step.beside sm1 hdx)) (sm1.beside hdx) ((sr.mono sm st1).mono sm1 (Step.beside sm1 hdx)) rfl⟩⟩
end
end DL
set_option Elab.async false
set_option linter.all false
set_option maxRecDepth 100000
set_option maxHeartbeats 4000000
/-! DM8: the written part asked for such a class. -/
namespace DL
open PySem PySem.Spec PyProof.Rows L2 PySem.W PySem.Calls
def exName : Expr → Option (Str × Pos)
  | .Name x p => some (x, p)
  | _ => none
def exCall : Expr → Option (Expr × List Expr × List Keyword × Pos)
  | .Call f as ks p => some (f, as, ks, p)
  | _ => none
def exAttr : Expr → Option (Expr × Str × Pos)
  | .Attribute o n p => some (o, n, p)
  | _ => none
def exStr : Expr → Option (Str × Nat × Pos)
  | .Constant (.str x) j p => some (x, j, p)
  | _ => none
def stExpr : Stmt → Option (Expr × Pos)
  | .Expr e p => some (e, p)
  | _ => none
def stAsg : Stmt → Option (List Expr × Expr × Pos)
  | .Assign ts e p => some (ts, e, p)
  | _ => none
theorem exName_ok {e : Expr} {x : Str} {p : Pos} (h : exName e = some (x, p)) : e = .Name x p := by
  unfold exName at h; split at h
  · cases h; rfl
  · cases h
theorem exCall_ok {e f : Expr} {as : List Expr} {ks : List Keyword} {p : Pos} (h : exCall e = some (f, as, ks, p)) : e = .Call f as ks p := by
  unfold exCall at h; split at h
  · cases h; rfl
  · cases h
theorem exAttr_ok {e o : Expr} {n : Str} {p : Pos} (h : exAttr e = some (o, n, p)) : e = .Attribute o n p := by
  unfold exAttr at h; split at h
  · cases h; rfl
  · cases h
theorem exStr_ok {e : Expr} {x : Str} {j : Nat} {p : Pos} (h : exStr e = some (x, j, p)) : e = .Constant (.str x) j p := by
  unfold exStr at h; split at h
  · cases h; rfl
  · cases h
theorem stExpr_ok {s : Stmt} {e : Expr} {p : Pos} (h : stExpr s = some (e, p)) : s = .Expr e p := by
  unfold stExpr at h; split at h
  · cases h; rfl
  · cases h
theorem stAsg_ok {s : Stmt} {ts : List Expr} {e : Expr} {p : Pos} (h : stAsg s = some (ts, e, p)) : s = .Assign ts e p := by
  unfold stAsg at h; split at h
  · cases h; rfl
  · cases h
/-- the first row: super().__init__(txt) -/
def part1 (s : Stmt) : Option (Str × Nat × Pos × Pos × Pos × Pos × Pos × Pos) :=
  (stExpr s).bind fun (e, p4) => (exCall e).bind fun (f, as, ks, p3) => (exAttr f).bind fun (o, n, ap) => (exCall o).bind fun (f2, as2, ks2, p1) => (exName f2).bind fun (n2, p0) => match as, ks, as2, ks2 with
    | [c], [], [], [] => (exStr c).bind fun (t, j, p2) => if n = ("__init__" : Str) ∧ n2 = ("super" : Str) then some (t, j, p0, p1, ap, p2, p3, p4) else none
    | _, _, _, _ => none
theorem part1_ok {s : Stmt} {t : Str} {j : Nat} {p0 p1 ap p2 p3 p4 : Pos} (h : part1 s = some (t, j, p0, p1, ap, p2, p3, p4)) : s = .Expr (.Call (.Attribute (.Call (.Name "super" p0) [] [] p1) "__init__" ap) [.Constant (.str t) j p2] [] p3) p4 := by
  unfold part1 at h
  obtain ⟨⟨e, q4⟩, h1, h⟩ := Option.bind_eq_some_iff.mp h
  obtain ⟨⟨f, as, ks, q3⟩, h2, h⟩ := Option.bind_eq_some_iff.mp h
  obtain ⟨⟨o, n, aq⟩, h3, h⟩ := Option.bind_eq_some_iff.mp h
  obtain ⟨⟨f2, as2, ks2, q1⟩, h4, h⟩ := Option.bind_eq_some_iff.mp h
  obtain ⟨⟨n2, q0⟩, h5, h⟩ := Option.bind_eq_some_iff.mp h
  dsimp only at h
  split at h
  · obtain ⟨⟨t', j', q2⟩, h6, h⟩ := Option.bind_eq_some_iff.mp h
    dsimp only at h
    split at h
    · rename_i hc
      cases h
      rw [stExpr_ok h1, exCall_ok h2, exAttr_ok h3, exCall_ok h4, exName_ok h5, exStr_ok h6, hc.1, hc.2]
    · cases h
  · cases h
/-- the second: self.fld = prm -/
def part2 (s : Stmt) : Option (Str × Str × Pos × Pos × Pos × Pos) :=
  (stAsg s).bind fun (ts, e, p8) => (exName e).bind fun (prm, p7) => match ts with
    | [t] => (exAttr t).bind fun (o, fld, p6) => (exName o).bind fun (n, p5) => if n = ("self" : Str) then some (prm, fld, p5, p6, p7, p8) else none
    | _ => none
theorem part2_ok {s : Stmt} {prm fld : Str} {p5 p6 p7 p8 : Pos} (h : part2 s = some (prm, fld, p5, p6, p7, p8)) : s = .Assign [.Attribute (.Name "self" p5) fld p6] (.Name prm p7) p8 := by
  unfold part2 at h
  obtain ⟨⟨ts, e, q8⟩, h1, h⟩ := Option.bind_eq_some_iff.mp h
  obtain ⟨⟨prm', q7⟩, h2, h⟩ := Option.bind_eq_some_iff.mp h
  dsimp only at h
  split at h
  · obtain ⟨⟨o, fld', q6⟩, h3, h⟩ := Option.bind_eq_some_iff.mp h
    obtain ⟨⟨n, q5⟩, h4, h⟩ := Option.bind_eq_some_iff.mp h
    dsimp only at h
    split at h
    · rename_i hc
      cases h
      have h4' : exName o = some (n, p5) := h4
      rw [stAsg_ok h1, exName_ok h2, exAttr_ok h3, exName_ok h4', hc]
    · cases h
  · cases h
/-- the text's parts -/
def parts (b : List Stmt) : Option (List Str × Nat × List Pos) := match b with
  | [s1, s2] => (part1 s1).bind fun (t, j, p0, p1, ap, p2, p3, p4) => (part2 s2).map fun (prm, fld, p5, p6, p7, p8) => ([t, prm, fld], j, [p0, p1, ap, p2, p3, p4, p5, p6, p7, p8])
  | _ => none
theorem parts_ok {b : List Stmt} {prm fld txt : Str} {j : Nat} {p0 p1 ap p2 p3 p4 p5 p6 p7 p8 : Pos} (h : parts b = some ([txt, prm, fld], j, [p0, p1, ap, p2, p3, p4, p5, p6, p7, p8])) : b = initBody prm fld txt j p0 p1 ap p2 p3 p4 p5 p6 p7 p8 := by
  unfold parts at h
  split at h
  · rename_i s1 s2
    obtain ⟨⟨t, j', q0, q1, aq, q2, q3, q4⟩, h1, h⟩ := Option.bind_eq_some_iff.mp h
    cases z : part2 s2 with
    | none => rw [z] at h; cases h
    | some b =>
      obtain ⟨prm', fld', q5, q6, q7, q8⟩ := b
      rw [z] at h
      cases h
      rw [part1_ok h1, part2_ok z]
      rfl
  · cases h
def paramsB (prm : Str) (p : Arguments) : Bool := match p.posonlyargs, p.args, p.vararg, p.kwonlyargs, p.kw_defaults, p.kwarg, p.defaults with
  | [], [a, b], none, [], [], none, [] => decide (a.arg = ("self" : Str)) && decide (b.arg = prm)
  | _, _, _, _, _, _, _ => false
theorem paramsB_ok {prm : Str} {p : Arguments} (h : paramsB prm p = true) : ∃ a1 q1 a2 q2, p = ⟨[], [⟨"self", a1, q1⟩, ⟨prm, a2, q2⟩], none, [], [], none, []⟩ := by
  obtain ⟨x1, x2, x3, x4, x5, x6, x7⟩ := p
  unfold paramsB at h
  dsimp only at h
  split at h
  · rename_i a b
    rw [Bool.and_eq_true] at h
    obtain ⟨n1, a1, q1⟩ := a
    obtain ⟨n2, a2, q2⟩ := b
    have e1 := of_decide_eq_true h.1
    have e2 := of_decide_eq_true h.2
    dsimp only at e1 e2
    subst e1 e2
    exact ⟨a1, q1, a2, q2, rfl⟩
  · cases h
def scopeB (prm : Str) (sc : Scope) : Bool := decide (∀ x ∈ sc.names, x.2 ≠ .cell) && (decide (sc.names.lookup ("self" : Str) = some .local) && (decide (sc.names.lookup prm = some .local) && (decide (sc.isCoroutine = false) && (decide (sc.isGenerator = false) && (decide (sc.kind = .function) && (decide (sc.names.lookup ("super" : Str) = some .globalImplicit) && decide (sc.names.lookup ("__class__" : Str) = some .free)))))))
/-- the code object tells the file -/
def fileB (K : PySem.W.Frag) (prog : Program) (cda : Addr) : Bool := match K.lookup cda with
  | some ⟨_, _, .fields vs, _⟩ => (match vs[2]? with
    | some (Value.str file _) => ((prog.main.file : Str) == file)
    | _ => false)
  | _ => false
theorem fileB_ok {K : PySem.W.Frag} {prog : Program} {cda : Addr} (h : fileB K prog cda = true) : ∃ ccl cdd vs ccs file tf, K.lookup cda = some ⟨ccl, cdd, .fields vs, ccs⟩ ∧ vs[2]? = some (.str file tf) ∧ ((prog.main.file : Str) == file) = true := by
  unfold fileB at h
  split at h
  · rename_i a b vs c e
    split at h
    · rename_i file tf e2
      exact ⟨a, b, vs, c, file, tf, e, e2, h⟩
    · cases h
  · cases h
def cellB (K : PySem.W.Frag) (cc C : Addr) : Bool := match K.lookup cc with
  | some ⟨_, _, .cell (some v), _⟩ => decide (v = .ref C)
  | _ => false
theorem cellB_ok {K : PySem.W.Frag} {cc C : Addr} (h : cellB K cc C = true) : ∃ cl cld csl, K.lookup cc = some ⟨cl, cld, .cell (some (.ref C)), csl⟩ := by
  unfold cellB at h
  split at h
  · rename_i a b v c e
    have e2 := of_decide_eq_true h
    subst e2
    exact ⟨a, b, c, e⟩
  · cases h
/-- the class at C: its own __init__ is of the text b -/
def supB (K : PySem.W.Frag) (prog : Program) (C : Addr) (prm fld : Str) (b : List Stmt) : Bool :=
  PySem.W.excInitIn K C [.type "ValueError", .type "Exception", .type "BaseException", .type "object"] "ValueError.__new__" && (match K.lookup (He.ma K C "__init__") with
    | some ⟨_, _, .func fd, _⟩ => (match fd.body, fd.closure, fd.code with
      | .stmts b', [(x, cc)], .ref cda => decide (parts b' = parts b) && (decide (x = ("__class__" : Str)) && (paramsB prm fd.params && (scopeB prm fd.scope && (decide (fd.globals = mainGlobals) && (decide (fd.builtins = builtinsNs) && (decide (fd.defaults = .none) && (codeIn K (.ref cda) fd.qualname && (fileB K prog cda && cellB K cc C))))))))
      | _, _, _ => false)
    | _ => false)
theorem supB_ok {K : PySem.W.Frag} {prog : Program} {C : Addr} {prm fld txt : Str} {j : Nat} {p0 p1 ap p2 p3 p4 p5 p6 p7 p8 : Pos} {b : List Stmt} {pl : Env → Sem Bool} (T : OexC K C) (h : supB K prog C prm fld b = true) (hb : parts b = some ([txt, prm, fld], j, [p0, p1, ap, p2, p3, p4, p5, p6, p7, p8]))
    (hi : findIn K (.ref C) "__init__" = some (some (.ref (He.ma K C "__init__")))) (ht : typeIn K (.ref (He.ma K C "__init__")) = some (.type "function"))
    (hbind : ∀ (name qual : Str) (body : List Stmt) (scope : Scope) (kV doc pm : Value) (an : Option Addr) (cdv ct : Value) (cc : Addr) (a1 : Option Expr) (q1 : Pos) (a2 : Option Expr) (q2 : Pos) (u v : Value), bindArgs (ksFn name qual ⟨[], [⟨"self", a1, q1⟩, ⟨prm, a2, q2⟩], none, [], [], none, []⟩ body scope .none kV doc pm an cdv ct cc) ⟨[u, v], []⟩ = pure [(("self" : Str), u), (prm, v)])
    (hne : (prm == ("self" : Str)) = false) (hdp : (prm == ("__debug__" : Str)) = false) (htop : (prog.main.scope.names.lookup ("super" : Str)).isSome = false) (hsub : mroIn K C (.ref C) = some true) (hop : nsIn K cStatics "thirdparty.any" = some none)
    (hsup : ks_superIn K C C "__init__" = some (some (.builtin "ValueError.__init__"))) (hVE : subIn K (.ref C) (.type "ValueError") = some true) (hfld : findIn K (.ref C) fld = some none)
    (hev : ∀ env : Env, eval (.Call (.Attribute (.Call (.Name "super" p0) [] [] p1) "__init__" ap) [.Constant (.str txt) j p2] [] p3) env = (do
      let ov ← attributeBase (.Call (.Name "super" p0) [] [] p1) "__init__" env (eval (.Call (.Name "super" p0) [] [] p1) env)
      standAt ap.atName
      let (f, first) ← holding [ov] (getMethod ov "__init__" (pl env))
      callWith p3 f first (backTo p3 (starEach [.Constant (.str txt) j p2] env)) []))
    (hsw1 : ∀ env : Env, swapsWith (.Call (.Attribute (.Call (.Name "super" p0) [] [] p1) "__init__" ap) [.Constant (.str txt) j p2] [] p3) none p4.line env = pure false)
    (hsw2 : ∀ env : Env, swapsWith (.Name prm p7) (some (.Attribute (.Name "self" p5) fld p6)) p8.line env = pure false) : SupC K prog C fld := by
  refine ⟨T, ?_⟩
  unfold supB at h
  rw [Bool.and_eq_true] at h
  have h := h.2
  generalize hf : He.ma K C "__init__" = f at *
  split at h
  · rename_i oc od fd osl lk
    split at h
    · rename_i b' x cc cda e1 e2 e3
      simp only [Bool.and_eq_true] at h
      obtain ⟨c1, c2, c3, c4, c5, c6, c7, c8, c9, c10⟩ := h
      have d1 := of_decide_eq_true c1
      clear c1
      have d2 := of_decide_eq_true c2
      clear c2
      have d5 := of_decide_eq_true c5
      clear c5
      have d6 := of_decide_eq_true c6
      clear c6
      have d7 := of_decide_eq_true c7
      clear c7
      rw [hb] at d1
      have eb := parts_ok d1
      obtain ⟨a1, q1, a2, q2, ep⟩ := paramsB_ok c3
      unfold scopeB at c4
      simp only [Bool.and_eq_true, decide_eq_true_eq] at c4
      obtain ⟨s1, s2, s3, s4, s5, s6, s7, s8⟩ := c4
      obtain ⟨ccl, cdd, vs, ccs, file, tf, f1, f2, f3⟩ := fileB_ok c9
      obtain ⟨cl, cld, csl, g1⟩ := cellB_ok c10
      obtain ⟨n1, n2, n3, n4, n5, n6, n7, n8, n9, n10, n11, n12, n13, n14, n15⟩ := fd
      dsimp only at e1 e2 e3 c3 d5 d6 d7 c8 ep s1 s2 s3 s4 s5 s6 s7 s8
      subst e1 e2 e3 d2 d5 d6 d7 ep eb
      exact ⟨f, cc, cda, prm, txt, j, p0, p1, ap, p2, p3, p4, p5, p6, p7, p8, n1, n2, _, n5, .none, n9, n10, n11, n14, oc, ccl, cl, n12, od, cdd, cld, osl, ccs, csl, ⟨"self", a1, q1⟩, vs, file, tf, pl,
        hi, ht, lk, c8, fun u v => hbind _ _ _ _ _ _ _ _ _ _ _ _ _ _ _ u v, hne, s1, s2, s3, s4, s5, s6, s7, s8, rfl, rfl, f1, f2, f3, htop, g1, hsub, hop, hsup, hVE, hfld, hdp, hev, hsw1, hsw2⟩
    · cases h
  · cases h
end DL
set_option Elab.async false
set_option linter.all false
set_option maxRecDepth 100000
set_option maxHeartbeats 4000000
/-! DM9: the whole look at such a class; tuples of the top. -/
namespace DL
open PySem PySem.Spec PyProof.Rows L2 PySem.W PySem.Calls
def oexB (K : PySem.W.Frag) (C : Addr) : Bool := (match K.lookup C with
  | some ⟨c, _, .cls cd, sl⟩ => decide (c = .type "type") && (match cd.mro, sl.toList with
    | .ref C' :: bm, [_, _, _, _, some (.builtin n), _] => decide (C' = C) && (decide (n = "ValueError.__new__") && (!cd.hasDel && (cd.hasDict && PySem.HandSPX.refsVE bm)))
    | _, _ => false)
  | _ => false) && (decide (findIn K (.ref C) "__setattr__" = some (some (.builtin "object.__setattr__"))) && (decide (subIn K (.ref C) (.type "BaseException") = some true) && (decide (typeIn K (.ref C) = some (.type "type")) && keepIn K (.ref C))))
theorem oexB_ok {K : PySem.W.Frag} {C : Addr} (h : oexB K C = true) : OexC K C := by
  unfold oexB at h
  rw [Bool.and_eq_true] at h
  obtain ⟨h1, h2⟩ := h
  simp only [Bool.and_eq_true, decide_eq_true_eq] at h2
  obtain ⟨a1, a2, a3, a4⟩ := h2
  refine ⟨?_, a1, a2, a3, a4⟩
  split at h1
  · rename_i c dd cd sl ho
    rw [Bool.and_eq_true] at h1
    obtain ⟨hc, h1⟩ := h1
    have hc := of_decide_eq_true hc
    subst hc
    split at h1
    · rename_i C' bm k0 k1 k2 k3 n k5 hm hs
      simp only [Bool.and_eq_true, decide_eq_true_eq, Bool.not_eq_true'] at h1
      obtain ⟨e1, e2, e3, e4, e5⟩ := h1
      obtain ⟨nm, bs, mro, ns, qn, hd, sn, sub, ab, col, del⟩ := cd
      dsimp only at hm e3 e4
      subst hm e1 e2 e3 e4
      have hsl : sl = #[k0, k1, k2, k3, some (.builtin "ValueError.__new__"), k5] := by
        obtain ⟨l⟩ := sl
        simp only at hs
        rw [hs]
      subst hsl
      exact ⟨nm, qn, ns, bs, bm, sn, sub, ab, col, dd, k0, k1, k2, k3, k5, ho, e5⟩
    · cases h1
  · cases h1
def clsB (K : PySem.W.Frag) (prog : Program) (C : Addr) (prm fld : Str) (b : List Stmt) : Bool := oexB K C && (supB K prog C prm fld b && (decide (findIn K (.ref C) "__init__" = some (some (.ref (He.ma K C "__init__")))) && (decide (typeIn K (.ref (He.ma K C "__init__")) = some (.type "function")) && (decide (mroIn K C (.ref C) = some true) && (decide (nsIn K cStatics "thirdparty.any" = some none) && (decide (ks_superIn K C C "__init__" = some (some (.builtin "ValueError.__init__"))) && (decide (subIn K (.ref C) (.type "ValueError") = some true) && decide (findIn K (.ref C) fld = some none))))))))
theorem clsB_ok {K : PySem.W.Frag} {prog : Program} {C : Addr} {prm fld txt : Str} {j : Nat} {p0 p1 ap p2 p3 p4 p5 p6 p7 p8 : Pos} {b : List Stmt} {pl : Env → Sem Bool} (h : clsB K prog C prm fld b = true) (hb : parts b = some ([txt, prm, fld], j, [p0, p1, ap, p2, p3, p4, p5, p6, p7, p8]))
    (hbind : ∀ (name qual : Str) (body : List Stmt) (scope : Scope) (kV doc pm : Value) (an : Option Addr) (cdv ct : Value) (cc : Addr) (a1 : Option Expr) (q1 : Pos) (a2 : Option Expr) (q2 : Pos) (u v : Value), bindArgs (ksFn name qual ⟨[], [⟨"self", a1, q1⟩, ⟨prm, a2, q2⟩], none, [], [], none, []⟩ body scope .none kV doc pm an cdv ct cc) ⟨[u, v], []⟩ = pure [(("self" : Str), u), (prm, v)])
    (hev : ∀ env : Env, eval (.Call (.Attribute (.Call (.Name "super" p0) [] [] p1) "__init__" ap) [.Constant (.str txt) j p2] [] p3) env = (do
      let ov ← attributeBase (.Call (.Name "super" p0) [] [] p1) "__init__" env (eval (.Call (.Name "super" p0) [] [] p1) env)
      standAt ap.atName
      let (f, first) ← holding [ov] (getMethod ov "__init__" (pl env))
      callWith p3 f first (backTo p3 (starEach [.Constant (.str txt) j p2] env)) []))
    (hsw1 : ∀ env : Env, swapsWith (.Call (.Attribute (.Call (.Name "super" p0) [] [] p1) "__init__" ap) [.Constant (.str txt) j p2] [] p3) none p4.line env = pure false)
    (hsw2 : ∀ env : Env, swapsWith (.Name prm p7) (some (.Attribute (.Name "self" p5) fld p6)) p8.line env = pure false)
    (htop : (prog.main.scope.names.lookup ("super" : Str)).isSome = false) (hne : (prm == ("self" : Str)) = false := by decide) (hdp : (prm == ("__debug__" : Str)) = false := by decide) : SupC K prog C fld := by
  unfold clsB at h
  simp only [Bool.and_eq_true, decide_eq_true_eq] at h
  obtain ⟨h1, h2, h3, h4, h5, h6, h7, h8, h9⟩ := h
  exact supB_ok (oexB_ok h1) h2 hb h3 h4 hbind hne hdp htop h5 h6 h7 h8 h9 hev hsw1 hsw2
/-- a tuple of texts at the top -/
theorem svs_strs {K : PySem.W.Frag} {m : List Addr} {H : Hp} : ∀ zs : List Str, SVs K m H (zs.map D.str) ((zs.map He.Dv.str).map (He.Dv.v K))
  | [] => rfl
  | z :: zs => ⟨.str z, _, rfl, rfl, svs_strs zs⟩
def genSB (scope : Scope) (x : Str) : Bool := decide (scope.kind = .function) && (decide (scope.isCoroutine = false) && (decide (∀ y ∈ scope.names, y.2 ≠ .cell) && (decide (scope.names.lookup (".0" : Str) = some NameKind.local) && (decide (scope.names.lookup x = some .local) && decide (∀ y ∈ scope.names, y.2 ≠ .free)))))
theorem genS_by {env : Env} {scope : Scope} {x : Str} (h : genSB scope x = true) : GxR.GenS env scope x := by
  unfold genSB at h
  simp only [Bool.and_eq_true, decide_eq_true_eq] at h
  obtain ⟨h1, h2, h3, h4, h5, h6⟩ := h
  exact ⟨h1, h2, h3, h4, h5, fun y hy e => absurd e (h6 y hy)⟩
def dIndex (fo fe : DE) : DE := fun ρ S => (fo ρ S).bind fun o S1 => match o with
  | .obj n => (match lstAt S1 n with
    | some _ => (fe ρ S1).bind fun y S2 => (match flatOf y, (lstAt S2 n).bind flatsOf with
      | some u, some us => (match us.findIdx? (fun z => eqV z u) with
        | some k => .ok (.int (k : Int)) S2
        | none => .bad)
      | _, _ => .bad)
    | none => .bad)
  | _ => .bad
section
variable {X : Cx} {G : Gx} {W : WX} {e o : Expr} {fe fo : DE} {p pos apos cpos : Pos}
theorem je_globT {x : Str} {zs : List Str} (hm : X.mg x = some (.ref (He.ga X.K x))) (h : He.tupB X.K x (zs.map He.Dv.str) = true) (hg : Gl X x := by rfl) (hdb : (x == ("__debug__" : Str)) = false := by decide) : JE X G W (.Name x pos) (dC (.tup (zs.map D.str))) :=
  je_glob hm (fun m H => ⟨.ref (He.ga X.K x), rfl, _, _, rfl, He.tupB_ok h H, svs_strs zs⟩) hg hdb
theorem je_index (ho : JE X G W o fo) (he : JE X G W e fe) (hbase : attributeBase o "index" X.env (eval o X.env) = eval o X.env := by rfl)
    (hfew : ((backTo cpos (starEach [e] X.env)).all (fun x => !x.1) && (backToKw cpos (keywordEach [] X.env)).all (fun x => x.1.isSome) && decide ([e].length + ([] : List Keyword).length + (if ([] : List Keyword).isEmpty then 0 else 1) < 30)) = true := by rfl)
    (hline : (apos.endLine == cpos.line) = true := by rfl) (hs : starEach [e] X.env = (false, eval e X.env) :: starEach [] X.env := by rfl) (hplain : (backTo cpos (starEach [] X.env)).any (·.1) = false := by rfl) :
    JE X G W (.Call (.Attribute o "index" apos) [e] [] cpos) (dIndex fo fe) :=
  PE.imp (pe_bm PySem.F.plainAttrs_list PySem.F.slot_list_index PySem.F.type_list_index mt_index ho (ja_cons he ja_nil hs) hbase hfew hline hs hplain) fun σ H Q ⟨m, ρ, S, sr, sm, eo⟩ => ⟨m, ρ, S, sr, sm, EO.then (rel := SV X.K) eo fun x S1 v H1 m1 st1 sm1 r1 eo1 => by
    cases x with
    | obj n =>
      dsimp only at eo1
      cases z : lstAt S1 n with
      | none => rw [z] at eo1; exact eo1.elim
      | some xs0 =>
        rw [z] at eo1
        dsimp only at eo1
        obtain ⟨a, rfl, hm⟩ := r1
        obtain ⟨a', ws0, h1, h2, h3⟩ := lstAt_ok sm1 z
        rw [hm] at h1; cases h1
        refine ⟨.inl ⟨rfl, ws0, SqL.of h2⟩, m1, ρ, S1, sr.mono sm st1, sm1, ?_⟩
        unfold daCons daNil
        cases z2 : fe ρ S1 with
        | bad => rw [z2] at eo1; exact eo1.elim
        | exn x S2 => rw [z2] at eo1; exact eo1
        | ok d S2 =>
          rw [z2] at eo1
          simp only [Out.bind_ok] at eo1 ⊢
          intro vs H2 m2 st2 sm2 r2
          have eo2 := eo1.step st2
          obtain ⟨y, rfl, ry⟩ := svs1 r2
          split at eo2
          · rename_i u us e1 e2
            split at eo2
            · rename_i kx e3
              cases z3 : lstAt S2 n with
              | none => rw [z3] at e2; cases e2
              | some xs =>
                rw [z3] at e2
                obtain ⟨a', ws, g1, g2, g3⟩ := lstAt_ok sm2 z3
                rw [st2.get hm] at g1; cases g1
                obtain ⟨rfl, f1⟩ := flatOf_ok e1 ry
                obtain ⟨rfl, f2⟩ := flatsOf_ok (show flatsOf xs = some us from e2) g3
                obtain ⟨hk, hk2, hk3⟩ := List.findIdx?_eq_some_iff_getElem.mp e3
                refine ⟨a, ws, y, kx, ws[kx], rfl, rfl, SqL.of g2, f1, f2, by simp [hk], hk2, fun i z' hi hz => ?_, eo2 _ H2 m2 sm2.refl sm2 rfl⟩
                obtain ⟨hi2, hz2⟩ := List.getElem?_eq_some_iff.mp hz
                have := hk3 i hi
                rw [← hz2]
                simpa using this
            · exact eo2.elim
          · exact eo2.elim
    | _ => exact eo1.elim⟩
end
end DL
set_option Elab.async false
set_option linter.all false
set_option maxRecDepth 100000
set_option maxHeartbeats 4000000
/-! DM10: the hook whose written part holds the statics too. -/
namespace DL
open PySem PySem.Spec PyProof.Rows L2 PySem.W PySem.Calls
variable {n : Nat} {fa : List He.Fa} {fn : List He.DefD} {ts : List He.Tab} {tf : List He.Defn} {ex : PySem.W.Frag → Bool}
/-- the written part: what the names reach, and the statics -/
def frY (n : Nat) (g : Addr → Option Obj) : PySem.W.Frag := He.frT g (He.asD g n ++ [cStatics])
def obsY (n : Nat) (fa : List He.Fa) (fn : List He.DefD) (ts : List He.Tab) (tf : List He.Defn) (ex : PySem.W.Frag → Bool) (g : Addr → Option Obj) : He.AlX :=
  (He.obsT fa fn ts (frY n g), (ex (frY n g) && He.tabsB g tf (frY n g)))
theorem tabs_ok {h : Heap} {as : List Addr} (z : He.tabsB h.get? tf (He.frT h.get? as) = true) : ∀ p ∈ tf, PySem.W.codeHdIn (He.frT h.get? as) (He.cT (He.frT h.get? as) p).1 (He.cT (He.frT h.get? as) p).2 = true ∧ (He.frT h.get? as).lookup (He.cT (He.frT h.get? as) p).2 = none ∧ h.get? (He.cT (He.frT h.get? as) p).2 = some { cls := .none, data := .fields #[] } := by
  intro p hp
  have zp := List.all_eq_true.mp z p hp
  rw [Bool.and_eq_true] at zp
  refine ⟨zp.1, ?_⟩
  have z2 := zp.2
  generalize (He.cT (He.frT h.get? as) p).2 = t at z2 ⊢
  cases q : h.get? t with
  | none => rw [q] at z2; exact nomatch z2
  | some o => rw [q] at z2; exact ⟨He.frT_none q z2, congrArg some (He.emptyTab_eq z2)⟩
theorem saysY_of {w : World} {h : Heap} (e : obsY n fa fn ts tf ex h.get? = He.valX fn ts w) : He.SaysX fa fn ts tf ex w h (frY n h.get?) := by
  have e2 : (ex (frY n h.get?) && He.tabsB h.get? tf (frY n h.get?)) = true := congrArg Prod.snd e
  rw [Bool.and_eq_true] at e2
  have k := tabs_ok e2.2
  exact { t := congrArg Prod.fst e, more := e2.1, hd := fun p hp => (k p hp).1, out := fun p hp => (k p hp).2.1, empty := fun p hp => (k p hp).2.2 }
def hookY (n : Nat) (fa : List He.Fa) (fn : List He.DefD) (ts : List He.Tab) (tf : List He.Defn) (ex : PySem.W.Frag → Bool) : PySem.W.Hook :=
  { He.hookX n fa fn ts tf ex with obs := fun s => obsY n fa fn ts tf ex s.heap.get?, of := fun _ _ e => ⟨_, He.frT_in, saysY_of e⟩ }
theorem obsY_eq {g : Addr → Option Obj} {s : Shared} (h : ∀ a, g a = s.heap.get? a) : obsY n fa fn ts tf ex g = (hookY n fa fn ts tf ex).obs s := by
  rw [funext h]
  rfl
end DL
set_option Elab.async false
set_option linter.all false
set_option maxRecDepth 100000
set_option maxHeartbeats 2000000
/-! DN1: generator expressions in their own frame: any element, any target, tests, captured names. -/
namespace DL
open PySem PySem.Spec PyProof.Rows L2
/-- the generator expression's own scope: its own names (with their places in N), captured ones -/
structure GenB (N : List Str) (sc scope : Scope) (own : List (Str × Nat)) : Prop where
  kind : scope.kind = .function
  co : scope.isCoroutine = false
  cell : ∀ y ∈ scope.names, y.2 ≠ .cell
  dot : scope.names.lookup (".0" : Str) = some NameKind.local
  ix : ∀ p ∈ own, N[p.2]? = some p.1
  free : ∀ y ∈ scope.names, y.2 = .free → sc.names.lookup y.1 = some .cell ∨ sc.names.lookup y.1 = some .free
  loc : ∀ y ∈ scope.names, y.2 = .local → y.1 ∈ own.map (·.1) ∨ y.1 ∉ N
def genBB (N : List Str) (sc scope : Scope) (own : List (Str × Nat)) : Bool :=
  decide (scope.kind = .function) && !scope.isCoroutine && decide (scope.names.lookup (".0" : Str) = some NameKind.local) && own.all (fun p => decide (N[p.2]? = some p.1)) &&
    scope.names.all fun y => !decide (y.2 = .cell) && (!decide (y.2 = .free) || decide (sc.names.lookup y.1 = some .cell) || decide (sc.names.lookup y.1 = some .free)) && (!decide (y.2 = .local) || decide (y.1 ∈ own.map (·.1)) || decide (y.1 ∉ N))
theorem genB_by {N : List Str} {sc scope : Scope} {own : List (Str × Nat)} (h : genBB N sc scope own = true) : GenB N sc scope own := by
  unfold genBB at h
  simp only [Bool.and_eq_true, Bool.or_eq_true, Bool.not_eq_true', decide_eq_true_eq, decide_eq_false_iff_not, List.all_eq_true] at h
  obtain ⟨⟨⟨⟨h1, h2⟩, h3⟩, h4⟩, h5⟩ := h
  refine ⟨h1, h2, fun y hy => (h5 y hy).1.1, h3, h4, fun y hy e => ?_, fun y hy e => ?_⟩
  · rcases (h5 y hy).1.2 with (z | z) | z
    · exact absurd e z
    · exact .inl z
    · exact .inr z
  · rcases (h5 y hy).2 with (z | z) | z
    · exact absurd e z
    · exact .inl z
    · exact .inr z
theorem GenB.has {X : Cx} {scope : Scope} {own : List (Str × Nat)} (B : GenB X.N X.env.scope scope own) (ok : X.Ok) : ∀ y ∈ scope.names, y.2 = .free → ∃ c, X.env.cells.lookup y.1 = some c := fun y hy e => by
  rcases B.free y hy e with k | k
  · exact ok.has _ (.inl k)
  · exact ok.has _ (.inr k)
abbrev gEnv (X : Cx) (scope : Scope) (C : Addr) (code : Value) : Env := genEnv scope (cloFrom X.env.cells scope.names []) C code builtinsNs X.env
/-- the context of the generator's frame; s: the state ahead of the frame's making -/
def genCx (X : Cx) (s : Shared) (H : Hp) (scope : Scope) (code : Value) (fp : List Addr) : Cx where
  prog := X.prog
  w := X.w
  K := X.K
  mg := X.mg
  base := X.base
  A := X.A.in1.in1.deeper (gEnv X scope s.heap.objs.size code)
  N := X.N
  s_0 := s
  H_0 := H
  env := gEnv X scope s.heap.objs.size code
  outer := X.stack
  stack := gEnv X scope s.heap.objs.size code :: X.stack
  ex := fp
  fn := fun _ => false
  calm := true
  pn := []
  xe := fun _ _ => False
section
variable {X : Cx} {pins : List (Addr × Obj)} {σ : L2.St} {H H1 : Hp} {s : Shared} {scope : Scope} {own : List (Str × Nat)} {fp : List Addr} {code : Value}
theorem inv_gens {h' : Heap} {g' : Array GenState} {t' : Nat} (I : Inv X pins σ H s) (k : ∀ b o, s.heap.get? b = some o → h'.get? b = some o) (hg : AllBare g') : Inv X pins σ H { s with heap := h', gens := g', toks := t' } :=
  I.call (ch := []) (g' := g') (t' := t') (d' := s.drawn) (Un.kept k) (I.hok.kept k) hg fun b hb => absurd hb (by simp)
theorem inv_setGen {g : Nat} {x : GenState} (I : Inv X pins σ H s) (hx : x.bare = true) : Inv X pins σ H (s.setGen g x) := by
  refine inv_gens (h' := s.heap) (t' := s.toks) I (fun _ _ e => e) fun y hy => ?_
  obtain ⟨i, hi, rfl⟩ := Array.mem_iff_getElem.mp hy
  have hi' : i < s.gens.size := by simpa using hi
  rw [Array.getElem_setIfInBounds hi']
  split
  · exact hx
  · exact I.bare _ (Array.getElem_mem _)
theorem gen_start {h' : Heap} {t' : Nat} {g' : Array GenState} {mm : Str → Option Value} (I : Inv X pins σ H s) (B : GenB X.N X.env.scope scope own) (hN : X.N.Nodup) (hd : X.A.handled = none) (hfp : ∀ b ∈ fp, FpOk X pins H b ∧ b < s.heap.objs.size) (hg : AllBare g')
    (hns : h'.Ns s.heap.objs.size mm) (kp : ∀ b o, s.heap.get? b = some o → h'.get? b = some o) :
    Inv (genCx X s H scope code fp) [] (wipe σ (own.map (·.2))) H { s with heap := h', gens := g', toks := t' } := by
  have hfree := B.has I.ok
  have cm : ∀ {y c}, (cloFrom X.env.cells scope.names []).lookup y = some c → X.env.cells.lookup y = some c ∧ c < s.heap.objs.size := fun {y c} e => by
    rcases cloFrom_mem (PySem.mem_of_lookup e) with hm | ⟨h1, h2⟩
    · cases hm
    · obtain ⟨c1, hc⟩ := hfree _ h1 rfl
      have hc : X.env.cells.lookup y = some c1 := hc
      have e2 : c = c1 := by
        rw [h2, hc] <;> rfl
      rw [e2]
      obtain ⟨w, z⟩ := I.cell _ _ hc
      exact ⟨hc, z.lt⟩
  have look : ∀ {y}, scope.names.lookup y = some .free → ∃ c, (cloFrom X.env.cells scope.names []).lookup y = some c := fun {y} hl => by
    have hy : (y, NameKind.free) ∈ scope.names := PySem.mem_of_lookup hl
    exact mem_lookup (cloFrom_has (cells := X.env.cells) (acc := []) hy)
  have okG : (genCx X s H scope code fp).Ok := by
    refine ⟨I.ok.mod, B.kind, I.ok.glob, rfl, Nat.le_refl _, fun y z c e1 e2 => I.ok.inj y z c (cm e1).1 (cm e2).1, fun y hy => ?_, fun y c z _ => ?_, fun _ => hd, Around.frames_deeper I.ok.frames, .inr ⟨rfl, rfl⟩, fun b hb => ⟨Nat.ne_of_lt (hfp b hb).2, fun y c e z => ?_⟩,
      I.bs, Nat.le_trans I.ok.bsz I.sz, fun b o e hb => ?_, fun b hb z => ?_, I.stack, I.stkFree⟩
    · have hy : scope.names.lookup y = some .cell ∨ scope.names.lookup y = some .free := hy
      rcases hy with hy | hy
      · exact absurd rfl (B.cell _ (PySem.mem_of_lookup hy))
      · exact look hy
    · have z : false = true := z
      cases z
    · exact (hfp b hb).1.2.2.2.2.1 y c (cm e).1 z
    · rcases (hfp b hb).1.2.2.2.1 with z | z
      · exact I.ok.noex b o e z
      · exact absurd (Nat.lt_of_lt_of_le (Heap.lt_size e) (Nat.le_trans I.ok.bsz z)) (Nat.lt_irrefl _)
    · rcases List.mem_cons.mp (I.stkSub b z) with z | z
      · exact (hfp b hb).1.2.1 z
      · exact (hfp b hb).1.2.2.1 z
  refine ⟨okG, rfl, hg, Un.kept kp, ⟨mm, hns, fun i y av e1 e2 e3 => ?_⟩, fun y c e => ?_, I.hok.fresh (Nat.le_refl _), fun y c e => I.freeC y c (cm e).1, fun p hp => absurd (show p ∈ ([] : List (Addr × Obj)) ++ [] from hp) (by simp), I.hok.kept kp, by rw [wipe_length]; exact I.len⟩
  · obtain ⟨e2, hne⟩ := wipe_some e2
    have e3 : Vis scope y := e3
    rcases e3 with k | k | k
    · rcases B.loc _ (PySem.mem_of_lookup k) rfl with e' | e'
      · obtain ⟨p, hp, hpy⟩ := List.mem_map.mp e'
        have e4 := B.ix p hp
        have e5 : p.1 = y := hpy
        rw [e5] at e4
        exact absurd (List.mem_map.mpr ⟨p, hp, nodup_ix hN e4 e1⟩) hne
      · exact absurd (List.mem_of_getElem? e1) e'
    · exact absurd rfl (B.cell _ (PySem.mem_of_lookup k))
    · obtain ⟨m, hn, hl⟩ := I.loc
      have hvis : Vis X.env.scope y := (B.free _ (PySem.mem_of_lookup k) rfl).elim (fun k => .inr (.inl k)) (fun k => .inr (.inr k))
      obtain ⟨w', r, q⟩ := hl i y av e1 e2 hvis
      obtain ⟨c2, h2⟩ := look k
      refine ⟨w', r, .inr ⟨.inr k, c2, h2, ?_⟩⟩
      have c1 := (cm h2).1
      rcases q with ⟨k', _⟩ | ⟨_, c3, e', z⟩
      · have k' : X.env.scope.names.lookup y = some .local := k'
        rcases B.free _ (PySem.mem_of_lookup k) rfl with k2 | k2 <;> rw [show X.env.scope.names.lookup y = _ from k2] at k' <;> cases k'
      · rw [c1] at e'
        cases e'
        exact z.keeps kp
  · obtain ⟨w', z⟩ := I.cell y c (cm e).1
    exact ⟨w', z.keeps kp⟩
/-- the generator is made -/
theorem gen_make {T : List (Addr × Str)} {c P : Addr} {elt tg iter : Expr} {ifs : List Expr} {gpos : Pos} {wi : TI} {k : Nat} {R : It → Hp → Prop} {Q' : Value → Shared → Prop}
    (hr : Room k X.A) (TB : LamX.TabB X.base X.mg c P) (hcode : X.env.code = .ref c) (hm : (P, X.env.qual ++ "<genexpr>") ∈ T) (hu : ∀ p ∈ T, p.1 = P → p.2 = X.env.qual ++ "<genexpr>") (B : GenB X.N X.env.scope scope own) (hi : PI X tg iter wi) (hs : ∀ v, genFold iter X.env v = pure v) (I : Inv X pins σ H s)
    (h : wi σ H fun J H1 => LamX.Tabs T H1 ∧ R J H1)
    (hQ : ∀ (J : It) (H1 H2 : Hp) (it : Addr) (fp : List Addr) (tn : Nat → Heap → Prop) (code : Value) (s4 : Shared) (h' : Heap) (o : Obj) (tk : Nat), R J H1 → LamX.ExtN H1 H2 → LamX.Tabs T H2 → Inv X pins σ H2 s4 → Turn X.prog X.w X.K tg J fp it tn → tn 0 s4.heap → (∀ b ∈ fp, FpOk X pins H2 b ∧ b < s4.heap.objs.size) →
      h'.Ns s4.heap.objs.size (fun y => if y = ".0" then some (.ref it) else none) → (∀ b o, s4.heap.get? b = some o → h'.get? b = some o) → s4.heap.objs.size < h'.objs.size → (∃ nm qn, o = { cls := .type "generator", data := .fields #[.int s4.gens.size 0, nm, qn] }) →
      Q' (.ref h'.objs.size) { s4 with gens := s4.gens.push (.fresh (.compStart (.GeneratorExp elt [⟨tg, iter, ifs, 0⟩] scope gpos) 0 (.ref it) .none (gEnv X scope s4.heap.objs.size code))), toks := tk, heap := h'.push o }) :
    wpAny (model X.prog X.w) X.A (eval (.GeneratorExp elt [⟨tg, iter, ifs, 0⟩] scope gpos) X.env) Q' X.xe s := by
  refine wpAny_GeneratorExp_make B.co (closure_ok (B.has I.ok)) B.cell B.dot B.kind hr.depth ?_ hs
  refine thn (hi.run pins s σ H _ I h) fun xv s1 hx => thn hx fun itv s2 h2 => ?_
  obtain ⟨it, fp, tn, J, H1, rfl, I2, TT, st2, f2, hT, hR⟩ := h2
  refine ⟨I2.nolimit, ?_⟩
  obtain ⟨ps, hP, ht, ha⟩ := hT _ hm
  have hP2 : s2.heap.get? P = some { cls := .none, data := .fields ps } := I2.hok P _ hP
  have szf : ∀ b ∈ fp, b < s2.heap.objs.size := fun b hb => by
    obtain ⟨o, e, _⟩ := TT.obj _ _ st2 b hb
    exact Heap.lt_size e
  have nfP : ∀ b ∈ fp, b ≠ P := fun b hb z => by
    have e := (f2 b hb).1
    rw [z, hP] at e
    cases e
  obtain ⟨bm, ob, e1, e2, e3, e4, e5, e6, e7, e8⟩ := TB.bm
  -- behind the code
  have rest : ∀ (cv : Value) (s3 : Shared) (H2 : Hp), LamX.ExtN H1 H2 → LamX.Tabs T H2 → Inv X pins σ H2 s3 → tn 0 s3.heap → (∀ b ∈ fp, FpOk X pins H2 b ∧ b < s3.heap.objs.size) → 
      wpAny (model X.prog X.w) X.A (builtinsFor X.env.globals X.env.builtins) (fun bi s₄ =>
        ∀ h', h'.Ns s₄.heap.objs.size (fun y => if y = ".0" then some (Value.ref it) else none) → Heap.SameBut s₄.heap.objs.size (s₄.heap.push { cls := .type "frame", data := .dict #[] }) h' →
          Q' (.ref h'.objs.size) { s₄ with
            gens := s₄.gens.push (.fresh (.compStart (.GeneratorExp elt [⟨tg, iter, ifs, 0⟩] scope gpos) 0 (.ref it) .none (genEnv scope (cloFrom X.env.cells scope.names []) s₄.heap.objs.size cv bi X.env))),
            toks := s₄.toks + 1 + 1 + 1,
            heap := h'.push { cls := .type "generator", data := .fields #[.int s₄.gens.size 0, .str "<genexpr>" (s₄.toks + 1), .str (X.env.qual ++ "<genexpr>") (s₄.toks + 1 + 1)] } }) X.xe s3 := by
    intro cv s3 H2 x1 x2 I3 st3 f3
    refine wpAny_builtinsFor (m := X.mg) (by rw [I3.ok.glob]; exact I3.mod.glob.keeps I3.bk) e1 e2 (I3.bk _ _ (e5.symm ▸ e5)) e6 e7 e8 ?_
    intro h' hn sb
    have hsz : h'.objs.size = s3.heap.objs.size + 1 := by rw [sb.1, Heap.size_push]
    exact hQ J H1 H2 it fp tn cv s3 h' _ _ hR x1 x2 I3 TT st3 f3 hn (fun b o e => sb.extBut b o (Nat.ne_of_lt (Heap.lt_size e)) (Heap.get?_push_of_some _ e)) (by omega) ⟨_, _, rfl⟩
  cases hf : codeAmong gpos ps.toList with
  | some cv =>
    refine wpAny_genexprCode_hit hcode ((TB.code.keeps I2.bk).code hP2 ht) hf ?_
    exact rest cv s2 H1 (LamX.ExtN.refl H1) hT I2 st2 fun b hb => ⟨f2 b hb, szf b hb⟩
  | none =>
    have cd : PySem.W.CodeHd s2.heap c P := TB.code.keeps I2.bk
    refine wpAny_genexprCodeX hcode (cd.code hP2 ht) (cd.tab hP2) hf fun c' h3 tk hx hge hlt3 hco' hrec htab' _ => ?_
    obtain ⟨c2, oc, vs, t, ec, hoc, hd, hv⟩ := hrec
    cases ec
    have nC : H1 c' = none := I2.hok.fresh hge
    have J3 := LamX.inv_table (t' := tk) (more := #[rawInt gpos.line, rawInt gpos.col, .ref c']) (h' := h3) I2 hP hx htab'.2 hge ⟨oc, vs, t, hoc, hd, hv⟩
    have hE : LamX.ExtN H1 (upd (upd H1 P (.tbl (ps ++ #[rawInt gpos.line, rawInt gpos.col, .ref c']))) c' (LamX.CodeO c' (X.env.qual ++ "<genexpr>"))) := by
      intro b u e n
      have nb : b ≠ P := fun z => by
        rw [z, hP] at e
        exact n ps (Option.some.inj e).symm
      rw [upd_ne (ne_of_none e nC), upd_ne nb]
      exact e
    have eL : (ps ++ #[rawInt gpos.line, rawInt gpos.col, .ref c']).toList = ps.toList ++ [rawInt gpos.line, rawInt gpos.col, .ref c'] := by simp
    refine rest _ _ _ hE (fun p hp => ?_) J3 (TT.keep _ _ _ st2 fun b hb o e => hx b o (nfP b hb) e) fun b hb => ⟨⟨?_, (f2 b hb).2⟩, Nat.lt_of_lt_of_le (szf b hb) (Nat.le_trans hge (Nat.le_of_lt hlt3))⟩
    · by_cases hb : p.1 = P
      · rw [hu p hp hb, hb]
        refine ⟨_, by rw [upd_ne (ne_of_none hP nC), upd_same], by rw [eL]; exact PySem.TriplesOk_snoc _ _ _ _ ht, fun p' cv hcv => ?_⟩
        rw [eL] at hcv
        rcases LamX.among_app _ ht hcv with z | z
        · obtain ⟨c0, q1, q2⟩ := ha p' cv z
          exact ⟨c0, q1, hE _ _ q2 LamX.codeO_ne⟩
        · exact ⟨c', z, upd_same⟩
      · obtain ⟨ps', a1, a2, a3⟩ := hT p hp
        refine ⟨ps', by rw [upd_ne (ne_of_none a1 nC), upd_ne hb]; exact a1, a2, fun p' cv hcv => ?_⟩
        obtain ⟨c0, q1, q2⟩ := a3 p' cv hcv
        exact ⟨c0, q1, hE _ _ q2 LamX.codeO_ne⟩
    · rw [upd_ne (Nat.ne_of_lt (Nat.lt_of_lt_of_le (szf b hb) hge)), upd_ne (nfP b hb)]
      exact (f2 b hb).1
end
end DL
set_option Elab.async false
set_option linter.all false
set_option maxRecDepth 100000
set_option maxHeartbeats 2000000
/-! DN2: the generator's turns, its consumer's next. -/
namespace DL
open PySem PySem.Spec PyProof.Rows L2
/-- a generator that is consumed at once -/
structure GD (β : Type) where
  X : Cx
  s0 : Shared
  H0 : Hp
  scope : Scope
  code : Value
  fp : List Addr
  elt : Expr
  tg : Expr
  iter : Expr
  ifs : List Expr
  gpos : Pos
  it : Addr
  a : Addr
  S : Addr
  oa : Obj
  J : It
  tn : Nat → Heap → Prop
  n : Nat
  σ : L2.St
  vs : List Nat
  Cons : β → Obj → Prop
  Φ : β → Nat → Hp → Prop
  Ψ : β → Nat → V → Hp → Prop
  Qe : β → Hp → Prop
namespace GD
variable {β : Type}
abbrev cx (D : GD β) : Cx := genCx D.X D.s0 D.H0 D.scope D.code D.fp
abbrev gexp (D : GD β) : Expr := .GeneratorExp D.elt [⟨D.tg, D.iter, D.ifs, 0⟩] D.scope D.gpos
abbrev loop (D : GD β) : Code := .compLoop D.gexp 0 (.ref D.it) .none (gEnv D.X D.scope D.s0.heap.objs.size D.code)
abbrev startC (D : GD β) : Code := .compStart D.gexp 0 (.ref D.it) .none (gEnv D.X D.scope D.s0.heap.objs.size D.code)
def pn (D : GD β) (o : Obj) : List (Addr × Obj) := [(D.a, D.oa), (D.S, o)]
def asl (D : GD β) (b : β) (i : Nat) (s : Shared) : Prop :=
  ∃ H o, Inv D.cx (D.pn o) (wipe D.σ D.vs) H s ∧ D.Cons b o ∧ D.tn i s.heap ∧ (∀ x ∈ D.fp, H x = none) ∧ D.Φ b i H
def P (D : GD β) (_ : Nat) (s₀ s₁ : Shared) : Prop :=
  ∃ b H o, Inv D.cx (D.pn o) (wipe D.σ D.vs) H s₁ ∧ D.Cons b o ∧ s₀.heap.get? D.S = some o ∧ D.Qe b H ∧ s₀.gens.size ≤ s₁.gens.size
abbrev R (D : GD β) : GenEnd := fun n s₀ r s₁ => r = .ok .next ∧ D.P n s₀ s₁
def Y (D : GD β) : Protocol := fun m s₀ v s kap =>
  ∃ b i y H o, D.n - (i + 1) < m ∧ i < D.n ∧ RelV y v ∧ Inv D.cx (D.pn o) (wipe D.σ D.vs) H s ∧ D.Cons b o ∧ s₀.heap.get? D.S = some o ∧ D.tn (i + 1) s.heap ∧ (∀ x ∈ D.fp, H x = none) ∧ D.Ψ b i y H ∧ s₀.gens.size ≤ s.gens.size ∧
    ∀ s'' b', D.asl b' (i + 1) s'' → kap (.send .none) s''
structure Ok (D : GD β) (g : TG) (tt : TT) (te : TE) : Prop where
  hd : D.X.A.handled = none
  T : Turn D.X.prog D.X.w D.X.K D.tg D.J D.fp D.it D.tn
  na : D.a ∉ D.fp
  nS : D.S ∉ D.fp
  co : D.scope.isCoroutine = false
  pg : PG D.cx D.tg g
  pt : PTs D.cx D.ifs tt
  pe : PE D.cx D.elt te
  turn : ∀ b i H, i ≤ D.n → D.Φ b i H → (i = D.n → D.J.stop i H ∧ D.Qe b H) ∧ (i < D.n → D.J.go i H ∧ ∀ x H', D.J.yld i H x H' → g x (wipe D.σ D.vs) H' fun σ2 H2 => wipe σ2 D.vs = wipe D.σ D.vs ∧ tt σ2 H2 fun ok H3 =>
    if ok = true then te σ2 H3 fun y H4 => D.Ψ b i y H4 else D.Φ b (i + 1) H3)
theorem over_eq (D : GD β) : D.X.A.in1.in1.over D.loop [] = D.cx.A := by
  first
    | rfl
    | (show (D.X.A.in1.in1).over _ [] = (D.X.A.in1.in1).deeper _
       obtain ⟨hd, d, fr, gs, u⟩ := D.X.A.in1.in1; simp [Around.over, Around.deeper, marksOver, frameCount, unitsOf, envsOf, guardsOf, pushEnvs, pushGuards, Code.envs, Code.env?, Code.isFrame, Code.guards, Code.isGuard, Code.weight, Code.frames, Code.isCreation, Code.isCaller, Code.cUnits])
theorem over_eq0 (D : GD β) : D.X.A.in1.in1.over D.startC [] = D.cx.A := by
  first
    | rfl
    | (show (D.X.A.in1.in1).over _ [] = (D.X.A.in1.in1).deeper _
       obtain ⟨hd, d, fr, gs, u⟩ := D.X.A.in1.in1; simp [Around.over, Around.deeper, marksOver, frameCount, unitsOf, envsOf, guardsOf, pushEnvs, pushGuards, Code.envs, Code.env?, Code.isFrame, Code.guards, Code.isGuard, Code.weight, Code.frames, Code.isCreation, Code.isCaller, Code.cUnits])
theorem stat {D : GD β} {g : TG} {tt : TT} {te : TE} (O : D.Ok g tt te) {o : Obj} {σ' : L2.St} {H' : Hp} {s' : Shared} (I : Inv D.cx (D.pn o) σ' H' s') (hn : ∀ b ∈ D.fp, H' b = none) : ∀ b ∈ D.fp, FpOk D.cx (D.pn o) H' b := fun b hb =>
  ⟨hn b hb, (I.ok.exf b hb).1, I.ok.exfs b hb, .inl hb, fun x c e => (I.ok.exf b hb).2 x c e, fun p hp => by
    have hp : p ∈ [(D.a, D.oa), (D.S, o)] := hp
    rcases List.mem_cons.mp hp with e | e
    · rw [e]; exact fun z => O.na (by rw [show D.a = b from z]; exact hb)
    · rw [List.mem_singleton.mp e]; exact fun z => O.nS (by rw [show D.S = b from z]; exact hb)⟩
theorem seg {D : GD β} {g : TG} {tt : TT} {te : TE} (O : D.Ok g tt te) : ∀ (k i c : Nat) (b : β) (s₀ s : Shared) (H : Hp) (o : Obj), D.n - i = k → i ≤ D.n → D.n - i < c → Inv D.cx (D.pn o) (wipe D.σ D.vs) H s → D.Cons b o → s₀.heap.get? D.S = some o → D.tn i s.heap → (∀ x ∈ D.fp, H x = none) → D.Φ b i H → s₀.gens.size ≤ s.gens.size →
    Seg (model D.X.prog D.X.w) D.X.A.in1.in1 D.R D.Y c s₀ D.loop ((model D.X.prog D.X.w).den D.loop) [] s := by
  have hov := D.over_eq
  intro k
  induction k with
  | zero =>
    intro i c b s₀ s H o hk hi hc I hC hS st nf ph hsz
    have e : i = D.n := by omega
    obtain ⟨stop, qe⟩ := (O.turn b i H hi ph).1 e
    show Seg _ _ _ _ _ s₀ _ ((compTurn D.gexp 0 (.ref D.it) .none (gEnv D.X D.scope D.s0.heap.objs.size D.code)).onRaise (leaving (gEnv D.X D.scope D.s0.heap.objs.size D.code))) [] s
    rw [compTurn_gen, Sem.onRaise_eq_wrap]
    refine seg_bind_wrap (wpAny_standAt ?_)
    refine seg_bind_wrap ?_
    rw [hov]
    refine GenW.wpAny_gsz hsz (thnF (O.T.done D.cx rfl rfl rfl rfl i _ s _ H (fun _ _ => False) I (stat O I nf) st stop) fun r s1 ⟨hr, I1⟩ hz => ?_)
    subst hr
    exact seg_end (.ok .next) ⟨rfl, b, H, o, I1, hC, hS, qe, hz⟩
  | succ k ih =>
    intro i c b s₀ s H o hk hi hc I hC hS st nf ph hsz
    have hlt : i < D.n := by omega
    obtain ⟨go, step⟩ := (O.turn b i H hi ph).2 hlt
    show Seg _ _ _ _ _ s₀ _ ((compTurn D.gexp 0 (.ref D.it) .none (gEnv D.X D.scope D.s0.heap.objs.size D.code)).onRaise (leaving (gEnv D.X D.scope D.s0.heap.objs.size D.code))) [] s
    rw [compTurn_gen, Sem.onRaise_eq_wrap]
    refine seg_bind_wrap (wpAny_standAt ?_)
    refine seg_bind_wrap ?_
    rw [hov]
    refine GenW.wpAny_gsz hsz (thnF (O.T.item D.cx rfl rfl rfl rfl i _ s _ H (fun _ _ => False) I (stat O I nf) st go) fun r s1 ⟨u, hr, h1⟩ hz1 => ?_)
    subst hr
    refine seg_bind_wrap ?_
    rw [hov]
    refine GenW.wpAny_gsz hz1 (thnF h1 fun _ s2 ⟨x, H2, I2, rx, yx, st2, nf2⟩ hz2 => ?_)
    have I2' := I2.pinned (stat O I2 nf2) (O.T.obj _ _ st2)
    refine seg_bind_wrap ?_
    rw [hov]
    refine GenW.wpAny_gsz hz2 (thnF (O.pg.run _ s2 _ H2 x u _ I2' rx (step x H2 yx)) fun _ s3 ⟨σ3, H3, I3, hw3, q3⟩ hz3 => ?_)
    refine seg_bind_wrap ?_
    rw [hov]
    refine GenW.wpAny_gsz hz3 (thnF (O.pt.run _ s3 σ3 H3 _ I3 q3) fun ok s4 ⟨H4, I4, q4⟩ hz4 => ?_)
    have back : ∀ {s' : Shared} {H' : Hp}, Inv D.cx (D.pn o ++ pinsAt D.fp s2.heap) σ3 H' s' → Inv D.cx (D.pn o) (wipe D.σ D.vs) H' s' ∧ D.tn (i + 1) s'.heap ∧ ∀ x ∈ D.fp, H' x = none := fun {s' H'} I' => by
      have pin' : ∀ b ∈ D.fp, ∀ o', s2.heap.get? b = some o' → s'.heap.get? b = some o' ∧ H' b = none := fun b hb o' e =>
        let z := I'.pin (b, o') (List.mem_append_right _ (List.mem_append_right _ (mem_pinsAt hb e)))
        ⟨z.1, z.2.1⟩
      have hl : (wipe D.σ D.vs).length = σ3.length := by rw [← hw3, wipe_length]
      refine ⟨(I'.unpinned (pins := D.pn o)).weak hl (fun j v e => ?_), O.T.keep _ _ _ st2 fun b hb o' e => (pin' b hb o' e).1, fun b hb => ?_⟩
      · rw [← hw3] at e
        exact (wipe_some e).1
      · obtain ⟨o', e, _⟩ := O.T.obj _ _ st2 b hb
        exact (pin' b hb o' e).2
    cases ok with
    | false =>
      simp only [Bool.false_eq_true, if_false] at q4 ⊢
      obtain ⟨I5, st5, nf5⟩ := back I4
      exact seg_again rfl (ih (i + 1) c b s₀ s4 H4 o (by omega) hlt (by omega) I5 hC hS st5 nf5 q4 hz4)
    | true =>
      simp only [if_true] at q4 ⊢
      have hy : ∀ v, yieldOut (gEnv D.X D.scope D.s0.heap.objs.size D.code) v = yieldValue v := fun v => by
        have hco : (gEnv D.X D.scope D.s0.heap.objs.size D.code).scope.isCoroutine = false := O.co
        simp only [yieldOut, hco, Bool.false_eq_true, if_false]
      simp only [hy]
      rw [Sem.bind_eq_wrap', Sem.bind_eq_wrap', Sem.wrap_wrap, Sem.wrap_wrap]
      refine seg_wrap ?_
      rw [hov]
      refine GenW.wpAny_gsz hz4 (thnF (O.pe.run _ s4 σ3 H4 _ I4 q4) fun y s5 ⟨yv, H5, I5, ry, q5⟩ hz5 => ?_)
      obtain ⟨I6, st6, nf6⟩ := back I5
      obtain ⟨c', rfl⟩ : ∃ c', c = c' + 1 := ⟨c - 1, by omega⟩
      refine seg_at (seg_yield rfl rfl rfl ⟨b, i, yv, H5, o, by omega, hlt, ry, I6, hC, hS, st6, nf6, q5, hz5, fun s'' b' ⟨H', o', I', hC', st', nf', ph'⟩ => ?_⟩)
      refine seg_again rfl (ih (i + 1) c' b' s'' s'' H' o' (by omega) hlt (by omega) I' hC' ?_ st' nf' ph' (Nat.le_refl _))
      exact (I'.pin (D.S, o') (List.mem_append_right _ (List.mem_cons_of_mem _ List.mem_cons_self))).1
theorem seg0 {D : GD β} {g : TG} {tt : TT} {te : TE} (O : D.Ok g tt te) {c : Nat} {b : β} {s₀ s : Shared} {H : Hp} {o : Obj} (hc : D.n < c) (I : Inv D.cx (D.pn o) (wipe D.σ D.vs) H s) (hC : D.Cons b o) (hS : s₀.heap.get? D.S = some o) (st : D.tn 0 s.heap) (nf : ∀ x ∈ D.fp, H x = none) (ph : D.Φ b 0 H) (hsz : s₀.gens.size ≤ s.gens.size) :
    Seg (model D.X.prog D.X.w) D.X.A.in1.in1 D.R D.Y c s₀ D.startC ((model D.X.prog D.X.w).den D.startC) [] s := by
  have loop := seg O (D.n - 0) 0 c b s₀ s H o rfl (Nat.zero_le _) (by omega) I hC hS st nf ph hsz
  show Seg _ _ _ _ _ s₀ _ ((compStart D.gexp 0 (.ref D.it) .none (gEnv D.X D.scope D.s0.heap.objs.size D.code)).onRaise (leaving (gEnv D.X D.scope D.s0.heap.objs.size D.code))) [] s
  unfold compStart
  rw [Sem.onRaise_eq_wrap]
  show Seg _ _ _ _ _ s₀ _ ((ask >>= _).wrap _ _ _ _) [] s
  refine seg_bind_wrap (wpAny_askSetting ?_)
  split
  · exact seg_again rfl loop
  · first
      | exact seg_bind_wrap (wpAny_rule (seg_bind_wrap (wpAny_standAt (seg_bind_wrap (O.T.self _ 0 s _ _ st (seg_again rfl loop))))))
      | (refine seg_bind_wrap (wpAny_rule ?_); show Seg _ _ _ _ _ s₀ _ ((standAt D.iter.pos >>= _).wrap _ _ _ _) [] s; exact seg_bind_wrap (wpAny_standAt (seg_bind_wrap (O.T.self _ 0 s _ _ st (seg_again rfl loop)))))
def ready (D : GD β) (gn c : Nat) (b : β) (i : Nat) (s : Shared) : Prop :=
  D.n - i < c ∧ i ≤ D.n ∧ D.asl b i s ∧ ∃ gs, s.gens[gn]? = some gs ∧ ∀ s'' b', D.asl b' i s'' → gs.Goes (model D.X.prog D.X.w) D.X.A.in1.in1 D.R D.Y c (.send .none) s''
def GenO (o : Obj) (gn : Nat) : Prop := ∃ nm qn, o = { cls := .type "generator", data := .fields #[.int gn 0, nm, qn] }
theorem isGen {h : Heap} {a : Addr} {o : Obj} {gn : Nat} (e : h.get? a = some o) (x : GenO o gn) : h.IsGen a gn := by
  obtain ⟨nm, qn, rfl⟩ := x
  exact ⟨_, _, _, e, rfl, rfl, rfl⟩
theorem next {D : GD β} {g : TG} {tt : TT} {te : TE} (O : D.Ok g tt te) {gn c i : Nat} {b : β} {s : Shared} {Q : Option Value → Shared → Prop} {E : Value → Shared → Prop} (hoa : GenO D.oa gn) (hroom : D.X.A.depth < recursionLimit) (inj : ∀ b b' o, D.Cons b o → D.Cons b' o → b = b')
    (r : D.ready gn c b i s)
    (hY : ∀ v s' y H o i' c', c = c' + 1 → i' < D.n → RelV y v → Inv D.cx (D.pn o) (wipe D.σ D.vs) H s' → D.Cons b o → s.heap.get? D.S = some o → D.tn (i' + 1) s'.heap → (∀ x ∈ D.fp, H x = none) → D.Ψ b i' y H → (∀ s'' b', D.asl b' (i' + 1) s'' → s''.gens = s'.gens → D.ready gn c' b' (i' + 1) s'') → Q (some v) s')
    (hE : ∀ s' H o, Inv D.cx (D.pn o) (wipe D.σ D.vs) H s' → D.Qe b H → Q none s') :
    wpAny (model D.X.prog D.X.w) D.X.A.in1 (pyNext (.ref D.a)) Q E s := by
  obtain ⟨hc, hi, asl, gs, hgs, hgo⟩ := r
  obtain ⟨H, o, I, hC, st, nf, ph⟩ := id asl
  have asl' : D.asl b i (s.setGen gn .running) := ⟨H, o, inv_setGen I rfl, hC, st, nf, ph⟩
  have pa := I.pin (D.a, D.oa) (List.mem_append_right _ List.mem_cons_self)
  have pS := I.pin (D.S, o) (List.mem_append_right _ (List.mem_cons_of_mem _ List.mem_cons_self))
  obtain ⟨c', rfl⟩ : ∃ c', c = c' + 1 := ⟨c - 1, by omega⟩
  have hlt : gn < s.gens.size := by
    rcases Nat.lt_or_ge gn s.gens.size with h' | h'
    · exact h'
    · rw [Array.getElem?_eq_none h'] at hgs; cases hgs
  refine wpAny_pyNext_genexpQ (A := D.X.A.in1) (P := D.P) (Y := D.Y) (n := c' + 1) O.hd I.nolimit hroom (isGen pa.1 hoa) hgs (hgo _ b asl') (fun v s₁ gs' hb hv => ?_) (fun s₁ hp h' hk => ?_)
  · obtain ⟨b1, i1, y, H1, o1, hm, hl1, ry, I1, hC1, hS1, st1, nf1, q1, hz, hkap⟩ := hv
    have e1 : o1 = o := by
      have hS1 : s.heap.get? D.S = some o1 := hS1
      rw [pS.1] at hS1
      exact (Option.some.inj hS1).symm
    subst e1
    have e2 := inj _ _ _ hC1 hC
    subst e2
    have hz : (s.setGen gn .running).gens.size ≤ s₁.gens.size := hz
    rw [GenW.setGen_size] at hz
    refine hY v _ y H1 o1 i1 c' rfl hl1 ry (inv_setGen I1 hb) hC1 pS.1 st1 nf1 q1 fun s'' b' as hg => ⟨hm, hl1, as, gs', ?_, fun s3 b3 as3 => hkap s3 b3 as3⟩
    rw [hg]
    show (s₁.gens.setIfInBounds gn gs')[gn]? = some gs'
    have : gn < s₁.gens.size := Nat.lt_of_lt_of_le hlt hz
    simp [this]
  · obtain ⟨b1, H1, o1, I1, hC1, hS1, qe, hz⟩ := hp
    have e1 : o1 = o := by
      have hS1 : s.heap.get? D.S = some o1 := hS1
      rw [pS.1] at hS1
      exact (Option.some.inj hS1).symm
    subst e1
    have e2 := inj _ _ _ hC1 hC
    subst e2
    have I2 : Inv D.cx (D.pn o1) (wipe D.σ D.vs) H1 (s₁.setGen gn .finished) := inv_setGen I1 rfl
    exact hE _ H1 o1 (inv_gens (g' := (s₁.setGen gn .finished).gens) (t' := (s₁.setGen gn .finished).toks) I2 hk I2.bare) qe
end GD
end DL
set_option Elab.async false
set_option linter.all false
set_option maxRecDepth 100000
set_option maxHeartbeats 2000000
/-! DN3: any, all, sum of a generator. -/
namespace DL
open PySem PySem.Spec PyProof.Rows L2
namespace GD
section
variable {D : GD Unit} {g : TG} {tt : TT} {te : TE} {gn : Nat} {QB : Bool → Hp → Prop} {R : Result → Shared → Prop}
theorem any_loop (O : D.Ok g tt te) (hoa : GenO D.oa gn) (hroom : D.X.A.depth < recursionLimit)
    (hΨ : ∀ i y H, D.Ψ () i y H → ∃ bb, y = .bl bb ∧ (bb = true → QB true H) ∧ (bb = false → D.Φ () (i + 1) H)) (hQe : ∀ H, D.Qe () H → QB false H)
    (hR : ∀ s' H o bb, Inv D.cx (D.pn o) (wipe D.σ D.vs) H s' → QB bb H → R (.ok (.ret (.bool bb))) s') :
    ∀ (c i : Nat) (s : Shared), D.ready gn c () i s → codeAny (model D.X.prog D.X.w) D.X.A (.builtin "any.loop" ⟨[.ref D.a], []⟩) R s := by
  intro c
  induction c using Nat.strongRecOn with
  | ind c ih =>
    intro i s r
    refine codeAny_builtin F.entry_any_loop ?_
    rw [Around.under_plainId F.plain_any_loop _]
    show wpAny _ D.X.A.in1 (pyNext (.ref D.a) >>= _) _ _ s
    refine wpAny_bind (next O hoa hroom (fun _ _ _ _ _ => rfl) r (fun v s' y H o i' c' hc hlt ry I hC hS st nf q rd => ?_) (fun s' H o I q => ?_))
    · obtain ⟨bb, rfl, h1, h2⟩ := hΨ i' y H q
      cases ry
      refine wpAny_bind (wpAny_holding (wpAny_truthy_bool ?_))
      refine wpAny_bind (wpAny_letGo ?_)
      cases bb with
      | false =>
        simp only [Bool.false_eq_true, if_false]
        exact wpAny_pure ⟨plainId_quiet F.plain_any_loop _, ih c' (by omega) (i' + 1) s' (rd s' () ⟨H, o, I, hC, st, nf, h2 rfl⟩ rfl)⟩
      | true =>
        simp only [if_true]
        exact wpAny_bind (wpAny_rule (wpAny_pure (hR s' H o true I (h1 rfl))))
    · exact wpAny_bind (wpAny_rule (wpAny_pure (hR s' H o false I (hQe H q))))
theorem all_loop (O : D.Ok g tt te) (hoa : GenO D.oa gn) (hroom : D.X.A.depth < recursionLimit)
    (hΨ : ∀ i y H, D.Ψ () i y H → ∃ bb, y = .bl bb ∧ (bb = false → QB false H) ∧ (bb = true → D.Φ () (i + 1) H)) (hQe : ∀ H, D.Qe () H → QB true H)
    (hR : ∀ s' H o bb, Inv D.cx (D.pn o) (wipe D.σ D.vs) H s' → QB bb H → R (.ok (.ret (.bool bb))) s') :
    ∀ (c i : Nat) (s : Shared), D.ready gn c () i s → codeAny (model D.X.prog D.X.w) D.X.A (.builtin "all.loop" ⟨[.ref D.a], []⟩) R s := by
  intro c
  induction c using Nat.strongRecOn with
  | ind c ih =>
    intro i s r
    refine codeAny_builtin F.entry_all_loop ?_
    rw [Around.under_plainId F.plain_all_loop _]
    show wpAny _ D.X.A.in1 (pyNext (.ref D.a) >>= _) _ _ s
    refine wpAny_bind (next O hoa hroom (fun _ _ _ _ _ => rfl) r (fun v s' y H o i' c' hc hlt ry I hC hS st nf q rd => ?_) (fun s' H o I q => ?_))
    · obtain ⟨bb, rfl, h1, h2⟩ := hΨ i' y H q
      cases ry
      refine wpAny_bind (wpAny_holding (wpAny_truthy_bool ?_))
      refine wpAny_bind (wpAny_letGo ?_)
      cases bb with
      | true =>
        simp only [if_true]
        exact wpAny_pure ⟨plainId_quiet F.plain_all_loop _, ih c' (by omega) (i' + 1) s' (rd s' () ⟨H, o, I, hC, st, nf, h2 rfl⟩ rfl)⟩
      | false =>
        simp only [Bool.false_eq_true, if_false]
        exact wpAny_bind (wpAny_rule (wpAny_pure (hR s' H o false I (h1 rfl))))
    · exact wpAny_bind (wpAny_rule (wpAny_pure (hR s' H o true I (hQe H q))))
end
/-- sum's own list -/
def SumO (b : Int) (o : Obj) : Prop := ∃ t c, o = { cls := .type "list", dict := none, data := .seq #[.int b t] c, slots := #[] }
theorem SumO.inj (b b' : Int) (o : Obj) (h : SumO b o) (h' : SumO b' o) : b = b' := by
  obtain ⟨t, c, rfl⟩ := h
  obtain ⟨t', c', e⟩ := h'
  simp only [Obj.mk.injEq, Data.seq.injEq, Array.mk.injEq] at e
  have e2 := e.2.2.1.1
  simp at e2
  exact e2.1
section
variable {β : Type} {D : GD β} {g : TG} {tt : TT} {te : TE}
theorem upd_S {o o' : Obj} {σ' : L2.St} {H : Hp} {s : Shared} {h' : Heap} {t' : Nat} (I : Inv D.cx (D.pn o) σ' H s) (hne : D.a ≠ D.S) (hS0 : D.s0.heap.objs.size ≤ D.S) (k : ∀ b ob, b ≠ D.S → s.heap.get? b = some ob → h'.get? b = some ob) (hS : h'.get? D.S = some o') (hnc : ∀ v, o'.data ≠ .cell v) :
    Inv D.cx (D.pn o') σ' H { s with heap := h', toks := t' } := by
  have pa := I.pin (D.a, D.oa) (List.mem_append_right _ List.mem_cons_self)
  have pS := I.pin (D.S, o) (List.mem_append_right _ (List.mem_cons_of_mem _ List.mem_cons_self))
  have J : Inv D.cx [(D.a, D.oa)] σ' H s := I.pins_of fun p hp => by rw [List.mem_singleton.mp hp]; exact pa
  have J2 : Inv D.cx [(D.a, D.oa)] σ' H { s with heap := h', toks := t' } := J.turned (it := D.S) k pS.2.1 pS.2.2.1 (.inr hS0) (fun x c e z => by
    obtain ⟨v, ob, ho, hd⟩ := I.cell x c e
    rw [z, pS.1] at ho
    cases ho
    exact pS.2.2.2.2 v hd) (fun p hp => by
      have hp : p ∈ [(D.a, D.oa)] := hp
      rw [List.mem_singleton.mp hp]
      exact hne)
  refine J2.pins_of fun p hp => ?_
  have hp : p ∈ [(D.a, D.oa), (D.S, o')] := hp
  rcases List.mem_cons.mp hp with e | e
  · rw [e]; exact J2.pin (D.a, D.oa) (List.mem_append_right _ List.mem_cons_self)
  · rw [List.mem_singleton.mp e]; exact ⟨hS, pS.2.1, pS.2.2.1, pS.2.2.2.1, hnc⟩
end
section
variable {D : GD Int} {g : TG} {tt : TT} {te : TE} {gn : Nat} {R : Result → Shared → Prop}
theorem sum_loop (O : D.Ok g tt te) (hoa : GenO D.oa gn) (hroom : D.X.A.depth < recursionLimit) (hCons : D.Cons = SumO) (hne : D.a ≠ D.S) (hS0 : D.s0.heap.objs.size ≤ D.S)
    (hΨ : ∀ b i y H, D.Ψ b i y H → ∃ v, y = .int v ∧ D.Φ (b + v) (i + 1) H)
    (hR : ∀ s' H o b t, Inv D.cx (D.pn o) (wipe D.σ D.vs) H s' → D.Qe b H → R (.ok (.ret (.int b t))) s') :
    ∀ (c i : Nat) (b st : Int) (s : Shared), (st = 0 ∨ st = 2) → D.ready gn c b i s → codeAny (model D.X.prog D.X.w) D.X.A (.builtin "sum.loop" ⟨[.ref D.a, .ref D.S, rawInt st, rawInt 0], []⟩) R s := by
  intro c
  induction c using Nat.strongRecOn with
  | ind c ih =>
    intro i b st s hst r
    obtain ⟨H0, o0, I0, hC0, _⟩ := id r.2.2.1
    have pS0 := (I0.pin (D.S, o0) (List.mem_append_right _ (List.mem_cons_of_mem _ List.mem_cons_self))).1
    rw [hCons] at hC0
    obtain ⟨tA, cA, rfl⟩ := hC0
    refine codeAny_builtin F.entry_sum_loop ?_
    rw [Around.under_plainId F.plain_sum_loop _]
    show wpAny _ D.X.A.in1 (seqItems? (.ref D.S) >>= _) _ _ s
    refine wpAny_bind (wpAny_seqItems pS0 rfl ?_)
    show wpAny _ D.X.A.in1 (tryCatch (pyNext (.ref D.a)) _ >>= _) _ _ s
    refine wpAny_bind (wpAny_tryCatch (next O hoa hroom (fun b b' o h h' => SumO.inj b b' o (hCons ▸ h) (hCons ▸ h')) r (fun v s' y H o i' c' hc hlt ry I hC hS st' nf q rd => ?_) (fun s' H o I q => ?_)))
    · obtain ⟨j, rfl, ph⟩ := hΨ b i' y H q
      obtain ⟨t, rfl⟩ := ry
      have hS' := (I.pin (D.S, o) (List.mem_append_right _ (List.mem_cons_of_mem _ List.mem_cons_self))).1
      have eo : o = { cls := .type "list", dict := none, data := .seq #[.int b tA] cA, slots := #[] } := Option.some.inj (hS.symm.trans pS0)
      subst eo
      have nfS : ∀ {h' : Heap}, (∀ x ob, x ≠ D.S → s'.heap.get? x = some ob → h'.get? x = some ob) → D.tn (i' + 1) h' := fun {h'} k => O.T.keep _ _ _ st' fun x hx ob e => k x ob (fun z => O.nS (z ▸ hx)) e
      have fin : ∀ (h' : Heap) (tk tn' c2 : Nat), (∀ x ob, x ≠ D.S → s'.heap.get? x = some ob → h'.get? x = some ob) → h'.get? D.S = some { cls := .type "list", dict := none, data := .seq #[.int (b + j) tn'] c2, slots := #[] } → ∀ st2 : Int, (st2 = 0 ∨ st2 = 2) →
          codeAny (model D.X.prog D.X.w) D.X.A (.builtin "sum.loop" ⟨[.ref D.a, .ref D.S, rawInt st2, rawInt 0], []⟩) R { s' with heap := h', toks := tk } := fun h' tk tn' c2 k hS2 st2 h2 => by
        refine ih c' (by omega) (i' + 1) (b + j) st2 _ h2 (rd _ _ ⟨H, _, upd_S (t' := tk) I hne hS0 k hS2 (fun v z => by cases z), ?_, nfS k, nf, ph⟩ rfl)
        rw [hCons]
        exact ⟨_, _, rfl⟩
      rcases hst with rfl | rfl
      · show wpAny _ _ (if (_ : Bool) = true then (mkInt (b + j) >>= _) else _) _ _ _
        split
        · refine wpAny_bind (wpAny_mkInt ?_)
          show wpAny _ _ (updateSeq D.S (fun _ => #[.int (b + j) s'.toks]) >>= _) _ _ _
          refine wpAny_bind ?_
          refine wpAny_updateSeq hS' rfl (wpAny_pure ⟨plainId_quiet F.plain_sum_loop _, fin _ _ _ _ (fun x ob hx e => (Heap.get?_update_other _ _ (Ne.symm hx)).trans e) (Heap.get?_update_self _ hS' rfl) 0 (.inl rfl)⟩)
        · refine wpAny_bind (wpAny_rule ?_)
          refine wpAny_bind (wpAny_attempt (wpAny_holding (wpAny_add_int ?_)))
          show wpAny _ _ (updateSeq D.S (fun _ => #[.int (b + j) s'.toks]) >>= _) _ _ _
          refine wpAny_bind (wpAny_updateSeq hS' rfl ?_)
          have hS₂ := Heap.get?_update_self (Obj.mapSeq fun _ => #[Value.int (b + j) s'.toks]) hS' rfl
          refine wpAny_bind (wpAny_letGo ?_)
          exact wpAny_bind (wpAny_updateSeq hS₂ rfl (wpAny_pure ⟨plainId_quiet F.plain_sum_loop _, fin _ _ _ _ (fun x ob hx e => (Heap.get?_update_other _ _ (Ne.symm hx)).trans ((Heap.get?_update_other _ _ (Ne.symm hx)).trans e)) (Heap.get?_update_self _ hS₂ rfl) 2 (.inr rfl)⟩))
      · show wpAny _ _ ((holding [Value.int j t] (binaryOp .Add (.int b tA) (.int j t))).attempt >>= _) _ _ _
        refine wpAny_bind (wpAny_attempt (wpAny_holding (wpAny_add_int ?_)))
        show wpAny _ _ (updateSeq D.S (fun _ => #[.int (b + j) s'.toks]) >>= _) _ _ _
        refine wpAny_bind (wpAny_updateSeq hS' rfl ?_)
        have hS₂ := Heap.get?_update_self (Obj.mapSeq fun _ => #[Value.int (b + j) s'.toks]) hS' rfl
        refine wpAny_bind (wpAny_letGo ?_)
        exact wpAny_bind (wpAny_updateSeq hS₂ rfl (wpAny_pure ⟨plainId_quiet F.plain_sum_loop _, fin _ _ _ _ (fun x ob hx e => (Heap.get?_update_other _ _ (Ne.symm hx)).trans ((Heap.get?_update_other _ _ (Ne.symm hx)).trans e)) (Heap.get?_update_self _ hS₂ rfl) 2 (.inr rfl)⟩))
    · exact wpAny_pure (hR s' H o b tA I q)
end
end GD
end DL
set_option Elab.async false
set_option linter.all false
set_option maxRecDepth 100000
set_option maxHeartbeats 2000000
/-! DN4: any, all, sum of a generator expression, in the judgement PE. -/
namespace DL
open PySem PySem.Spec PyProof.Rows L2
/-- the walk of a generator expression: n turns by Φ, what a turn hands out in Ψ -/
def GTurn (J : It) (n : Nat) (σ : L2.St) (vs : List Nat) (g : TG) (tt : TT) (te : TE) (Φ : Nat → Hp → Prop) (Ψ : Nat → V → Hp → Prop) (Qe : Hp → Prop) : Prop :=
  ∀ i H, i ≤ n → Φ i H → (i = n → J.stop i H ∧ Qe H) ∧ (i < n → J.go i H ∧ ∀ x H', J.yld i H x H' → g x (wipe σ vs) H' fun σ2 H2 => wipe σ2 vs = wipe σ vs ∧ tt σ2 H2 fun ok H3 => if ok = true then te σ2 H3 fun y H4 => Ψ i y H4 else Φ (i + 1) H3)
def tAnyX (T : List (Addr × Str)) (wi : TI) (g : TG) (tt : TT) (te : TE) (vs : List Nat) : TE := fun σ H Q => wi σ H fun J H1 => LamX.Tabs T H1 ∧ ∀ H2, LamX.ExtN H1 H2 → LamX.Tabs T H2 → ∃ (n : Nat) (Φ : Nat → Hp → Prop), Φ 0 H2 ∧
  GTurn J n σ vs g tt te Φ (fun i y H => ∃ bb, y = .bl bb ∧ (bb = true → Q (.bl true) H) ∧ (bb = false → Φ (i + 1) H)) (Q (.bl false))
def tAllX (T : List (Addr × Str)) (wi : TI) (g : TG) (tt : TT) (te : TE) (vs : List Nat) : TE := fun σ H Q => wi σ H fun J H1 => LamX.Tabs T H1 ∧ ∀ H2, LamX.ExtN H1 H2 → LamX.Tabs T H2 → ∃ (n : Nat) (Φ : Nat → Hp → Prop), Φ 0 H2 ∧
  GTurn J n σ vs g tt te Φ (fun i y H => ∃ bb, y = .bl bb ∧ (bb = false → Q (.bl false) H) ∧ (bb = true → Φ (i + 1) H)) (Q (.bl true))
def tSumX (T : List (Addr × Str)) (wi : TI) (g : TG) (tt : TT) (te : TE) (vs : List Nat) : TE := fun σ H Q => wi σ H fun J H1 => LamX.Tabs T H1 ∧ ∀ H2, LamX.ExtN H1 H2 → LamX.Tabs T H2 → ∃ (n : Nat) (Φ : Int → Nat → Hp → Prop), Φ 0 0 H2 ∧
  ∀ b, GTurn J n σ vs g tt te (Φ b) (fun i y H => ∃ v, y = .int v ∧ Φ (b + v) (i + 1) H) (Q (.int b))
section
variable {X : Cx} {scope : Scope} {own : List (Str × Nat)} {T : List (Addr × Str)} {c P : Addr} {elt tg iter : Expr} {ifs : List Expr} {gpos pos p : Pos} {wi : TI} {g : TG} {tt : TT} {te : TE} {k : Nat}
/-- the generator's context just behind its making -/
theorem gen_fresh {pins : List (Addr × Obj)} {σ : L2.St} {H2 : Hp} {s4 : Shared} {fp : List Addr} {code : Value} {h' : Heap} {o : Obj} {tk : Nat} {gs : GenState} {mm : Str → Option Value} (I4 : Inv X pins σ H2 s4) (B : GenB X.N X.env.scope scope own) (hN : X.N.Nodup) (hd : X.A.handled = none) (f4 : ∀ b ∈ fp, FpOk X pins H2 b ∧ b < s4.heap.objs.size)
    (hns : h'.Ns s4.heap.objs.size mm) (kp : ∀ b o, s4.heap.get? b = some o → h'.get? b = some o) (hlt : s4.heap.objs.size < h'.objs.size) (hgo : GD.GenO o s4.gens.size) (hgs : gs.bare = true) :
    Inv (genCx X s4 H2 scope code fp) [(h'.objs.size, o)] (wipe σ (own.map (·.2))) H2 { s4 with gens := s4.gens.push gs, toks := tk, heap := h'.push o } := by
  have Ia : Inv (genCx X s4 H2 scope code fp) [] (wipe σ (own.map (·.2))) H2 { s4 with heap := h', gens := s4.gens, toks := s4.toks } := gen_start I4 B hN hd f4 I4.bare hns kp
  have nf := Ia.nofs (Nat.le_refl _)
  have fr := Ia.hok.fresh (Nat.le_refl _)
  have ll := Ia.lt
  have Ib : Inv (genCx X s4 H2 scope code fp) [] (wipe σ (own.map (·.2))) H2 { s4 with gens := s4.gens.push gs, toks := tk, heap := h'.push o } := inv_gens (s := { s4 with heap := h', gens := s4.gens, toks := s4.toks }) (h' := h'.push o) (g' := s4.gens.push gs) (t' := tk) Ia (fun b ob e => Heap.get?_push_of_some _ e) (I4.bare.push hgs)
  refine Ib.pins_of fun q hq => ?_
  rw [List.mem_singleton.mp hq]
  refine ⟨Heap.get?_push_size _ (by obtain ⟨nm, qn, rfl⟩ := hgo; rfl), fr, Nat.ne_of_gt ll, nf, fun v z => ?_⟩
  obtain ⟨nm, qn, rfl⟩ := hgo
  cases z
theorem back_X {pins : List (Addr × Obj)} {σ σ' : L2.St} {H2 H' : Hp} {s4 s' : Shared} {fp : List Addr} {code : Value} {pl : List (Addr × Obj)} (I4 : Inv X pins σ H2 s4) (f4 : ∀ b ∈ fp, FpOk X pins H2 b ∧ b < s4.heap.objs.size) (I : Inv (genCx X s4 H2 scope code fp) pl σ' H' s') : Inv X pins σ H' s' :=
  I4.call' (ch := fp) I.os I.base I.hok I.bare fun b hb => ⟨(f4 b hb).1.2.2.2.1, (f4 b hb).1.2.1, (f4 b hb).1.2.2.2.2.1, (f4 b hb).1.2.2.2.2.2⟩
theorem pe_anyX (hr : Room (k + 3) X.A) (hg : Gl X "any") (hm : X.mg "any" = none) (TB : LamX.TabB X.base X.mg c P) (hcode : X.env.code = .ref c) (hT : (P, X.env.qual ++ "<genexpr>") ∈ T) (hu : ∀ p ∈ T, p.1 = P → p.2 = X.env.qual ++ "<genexpr>") (hN : X.N.Nodup)
    (B : GenB X.N X.env.scope scope own) (hi : PI X tg iter wi) (hpg : ∀ (s : Shared) (H : Hp) (code : Value) (fp : List Addr), Room k (genCx X s H scope code fp).A → PG (genCx X s H scope code fp) tg g) (hpt : ∀ (s : Shared) (H : Hp) (code : Value) (fp : List Addr), Room k (genCx X s H scope code fp).A → PTs (genCx X s H scope code fp) ifs tt)
    (hpe : ∀ (s : Shared) (H : Hp) (code : Value) (fp : List Addr), Room k (genCx X s H scope code fp).A → PE (genCx X s H scope code fp) elt te) (hs : ∀ v, genFold iter X.env v = pure v)
    (he : starEach [.GeneratorExp elt [⟨tg, iter, ifs, 0⟩] scope gpos] X.env = (false, eval (.GeneratorExp elt [⟨tg, iter, ifs, 0⟩] scope gpos) X.env) :: starEach [] X.env) :
    PE X (.Call (.Name "any" p) [.GeneratorExp elt [⟨tg, iter, ifs, 0⟩] scope gpos] [] pos) (tAnyX T wi g tt te (own.map (·.2))) := by
  refine ⟨fun pins s σ H Q I h => ?_⟩
  refine wpAny_Call_Name_kw (ld_blt I hg hm boot_any ?_)
  refine PyProof.Rows.callWith_builtin1 ?_ he (by rfl)
  rw [he]
  show wpAny _ _ (spliced ((false, eval (.GeneratorExp elt [⟨tg, iter, ifs, 0⟩] scope gpos) X.env) :: backTo pos (starEach [] X.env))) _ _ s
  refine Calls.spliced_cons (gen_make (T := T) hr TB hcode hT hu B hi hs I h fun J H1 H2 it fp tn code s4 h' o tk hR x1 x2 I4 TT st4 f4 hns kp hlt hgo => Calls.spliced_nil ?_)
  obtain ⟨n, Φ, φ0, turn⟩ := hR H2 x1 x2
  have hrG : Room k (genCx X s4 H2 scope code fp).A := hr.in1.in1.deeper _
  have nfp : h'.objs.size ∉ fp := fun hb => absurd (Nat.lt_trans (f4 _ hb).2 hlt) (Nat.lt_irrefl _)
  have O : GD.Ok (β := Unit) { X := X, s0 := s4, H0 := H2, scope := scope, code := code, fp := fp, elt := elt, tg := tg, iter := iter, ifs := ifs, gpos := gpos, it := it, a := h'.objs.size, S := h'.objs.size, oa := o, J := J, tn := tn, n := n, σ := σ, vs := own.map (·.2), Cons := fun _ _ => True, Φ := fun _ => Φ, Ψ := fun _ i y H => ∃ bb, y = .bl bb ∧ (bb = true → Q (.bl true) H) ∧ (bb = false → Φ (i + 1) H), Qe := fun _ => Q (.bl false) } g tt te :=
    ⟨hr.hd, TT, nfp, nfp, B.co, hpg _ _ _ _ hrG, hpt _ _ _ _ hrG, hpe _ _ _ _ hrG, fun _ i H hi ph => turn i H hi ph⟩
  have I5 := gen_fresh (tk := tk) (gs := .fresh (.compStart (.GeneratorExp elt [⟨tg, iter, ifs, 0⟩] scope gpos) 0 (.ref it) .none (gEnv X scope s4.heap.objs.size code))) (code := code) I4 B hN hr.hd f4 hns kp hlt hgo rfl
  have pa := I5.pin (h'.objs.size, o) (List.mem_append_right _ List.mem_cons_self)
  refine call_function_tree F.kind_any F.plain_any F.entry_any (F.args_any1 _) ?_
  unfold Builtin.«any»
  refine wpAny_bind (m := oneArg "any" _) (wpAny_pure ?_)
  refine wpAny_bind (wpAny_pyIter_gen (GD.isGen pa.1 hgo) ?_)
  refine wpAny_pure ⟨plainId_quiet F.plain_any_loop _, GD.any_loop (QB := fun b H => Q (.bl b) H) O hgo hr.depth (fun _ _ _ z => z) (fun _ z => z) (fun s' H o' bb I' qb => ?_) (n + 1) 0 _ ⟨by show n - 0 < n + 1; omega, Nat.zero_le _, ⟨H2, o, ?_, trivial, ?_, fun x hx => (f4 x hx).1.1, φ0⟩, _, Array.getElem?_push_size .., fun s'' b' as => ⟨rfl, ?_⟩⟩⟩
  · exact ⟨.bl bb, H, back_X I4 f4 I', rfl, qb⟩
  · refine I5.pins_of fun q hq => ?_
    have hq : q ∈ [(h'.objs.size, o), (h'.objs.size, o)] := hq
    rcases List.mem_cons.mp hq with e | e
    · rw [e]; exact pa
    · rw [List.mem_singleton.mp e]; exact pa
  · exact TT.keep _ _ _ st4 fun b _ ob e => Heap.get?_push_of_some _ (kp b ob e)
  · obtain ⟨H', o', I', hC', st', nf', ph'⟩ := as
    exact GD.seg0 O (by show n < n + 1; omega) I' hC' (I'.pin (h'.objs.size, o') (List.mem_append_right _ (List.mem_cons_of_mem _ List.mem_cons_self))).1 st' nf' ph' (Nat.le_refl _)
theorem pe_allX (hr : Room (k + 3) X.A) (hg : Gl X "all") (hm : X.mg "all" = none) (TB : LamX.TabB X.base X.mg c P) (hcode : X.env.code = .ref c) (hT : (P, X.env.qual ++ "<genexpr>") ∈ T) (hu : ∀ p ∈ T, p.1 = P → p.2 = X.env.qual ++ "<genexpr>") (hN : X.N.Nodup)
    (B : GenB X.N X.env.scope scope own) (hi : PI X tg iter wi) (hpg : ∀ (s : Shared) (H : Hp) (code : Value) (fp : List Addr), Room k (genCx X s H scope code fp).A → PG (genCx X s H scope code fp) tg g) (hpt : ∀ (s : Shared) (H : Hp) (code : Value) (fp : List Addr), Room k (genCx X s H scope code fp).A → PTs (genCx X s H scope code fp) ifs tt)
    (hpe : ∀ (s : Shared) (H : Hp) (code : Value) (fp : List Addr), Room k (genCx X s H scope code fp).A → PE (genCx X s H scope code fp) elt te) (hs : ∀ v, genFold iter X.env v = pure v)
    (he : starEach [.GeneratorExp elt [⟨tg, iter, ifs, 0⟩] scope gpos] X.env = (false, eval (.GeneratorExp elt [⟨tg, iter, ifs, 0⟩] scope gpos) X.env) :: starEach [] X.env) :
    PE X (.Call (.Name "all" p) [.GeneratorExp elt [⟨tg, iter, ifs, 0⟩] scope gpos] [] pos) (tAllX T wi g tt te (own.map (·.2))) := by
  refine ⟨fun pins s σ H Q I h => ?_⟩
  refine wpAny_Call_Name_kw (ld_blt I hg hm PyProof.Rows.boot_all ?_)
  refine PyProof.Rows.callWith_builtin1 ?_ he (by rfl)
  rw [he]
  show wpAny _ _ (spliced ((false, eval (.GeneratorExp elt [⟨tg, iter, ifs, 0⟩] scope gpos) X.env) :: backTo pos (starEach [] X.env))) _ _ s
  refine Calls.spliced_cons (gen_make (T := T) hr TB hcode hT hu B hi hs I h fun J H1 H2 it fp tn code s4 h' o tk hR x1 x2 I4 TT st4 f4 hns kp hlt hgo => Calls.spliced_nil ?_)
  obtain ⟨n, Φ, φ0, turn⟩ := hR H2 x1 x2
  have hrG : Room k (genCx X s4 H2 scope code fp).A := hr.in1.in1.deeper _
  have nfp : h'.objs.size ∉ fp := fun hb => absurd (Nat.lt_trans (f4 _ hb).2 hlt) (Nat.lt_irrefl _)
  have O : GD.Ok (β := Unit) { X := X, s0 := s4, H0 := H2, scope := scope, code := code, fp := fp, elt := elt, tg := tg, iter := iter, ifs := ifs, gpos := gpos, it := it, a := h'.objs.size, S := h'.objs.size, oa := o, J := J, tn := tn, n := n, σ := σ, vs := own.map (·.2), Cons := fun _ _ => True, Φ := fun _ => Φ, Ψ := fun _ i y H => ∃ bb, y = .bl bb ∧ (bb = false → Q (.bl false) H) ∧ (bb = true → Φ (i + 1) H), Qe := fun _ => Q (.bl true) } g tt te :=
    ⟨hr.hd, TT, nfp, nfp, B.co, hpg _ _ _ _ hrG, hpt _ _ _ _ hrG, hpe _ _ _ _ hrG, fun _ i H hi ph => turn i H hi ph⟩
  have I5 := gen_fresh (tk := tk) (gs := .fresh (.compStart (.GeneratorExp elt [⟨tg, iter, ifs, 0⟩] scope gpos) 0 (.ref it) .none (gEnv X scope s4.heap.objs.size code))) (code := code) I4 B hN hr.hd f4 hns kp hlt hgo rfl
  have pa := I5.pin (h'.objs.size, o) (List.mem_append_right _ List.mem_cons_self)
  refine call_function_tree F.kind_all F.plain_all F.entry_all (F.args_all1 _) ?_
  unfold Builtin.«all»
  refine wpAny_bind (m := oneArg "all" _) (wpAny_pure ?_)
  refine wpAny_bind (wpAny_pyIter_gen (GD.isGen pa.1 hgo) ?_)
  refine wpAny_pure ⟨plainId_quiet F.plain_all_loop _, GD.all_loop (QB := fun b H => Q (.bl b) H) O hgo hr.depth (fun _ _ _ z => z) (fun _ z => z) (fun s' H o' bb I' qb => ?_) (n + 1) 0 _ ⟨by show n - 0 < n + 1; omega, Nat.zero_le _, ⟨H2, o, ?_, trivial, ?_, fun x hx => (f4 x hx).1.1, φ0⟩, _, Array.getElem?_push_size .., fun s'' b' as => ⟨rfl, ?_⟩⟩⟩
  · exact ⟨.bl bb, H, back_X I4 f4 I', rfl, qb⟩
  · refine I5.pins_of fun q hq => ?_
    have hq : q ∈ [(h'.objs.size, o), (h'.objs.size, o)] := hq
    rcases List.mem_cons.mp hq with e | e
    · rw [e]; exact pa
    · rw [List.mem_singleton.mp e]; exact pa
  · exact TT.keep _ _ _ st4 fun b _ ob e => Heap.get?_push_of_some _ (kp b ob e)
  · obtain ⟨H', o', I', hC', st', nf', ph'⟩ := as
    exact GD.seg0 O (by show n < n + 1; omega) I' hC' (I'.pin (h'.objs.size, o') (List.mem_append_right _ (List.mem_cons_of_mem _ List.mem_cons_self))).1 st' nf' ph' (Nat.le_refl _)
theorem pe_sumX (hr : Room (k + 3) X.A) (hg : Gl X "sum") (hm : X.mg "sum" = none) (TB : LamX.TabB X.base X.mg c P) (hcode : X.env.code = .ref c) (hT : (P, X.env.qual ++ "<genexpr>") ∈ T) (hu : ∀ p ∈ T, p.1 = P → p.2 = X.env.qual ++ "<genexpr>") (hN : X.N.Nodup)
    (B : GenB X.N X.env.scope scope own) (hi : PI X tg iter wi) (hpg : ∀ (s : Shared) (H : Hp) (code : Value) (fp : List Addr), Room k (genCx X s H scope code fp).A → PG (genCx X s H scope code fp) tg g) (hpt : ∀ (s : Shared) (H : Hp) (code : Value) (fp : List Addr), Room k (genCx X s H scope code fp).A → PTs (genCx X s H scope code fp) ifs tt)
    (hpe : ∀ (s : Shared) (H : Hp) (code : Value) (fp : List Addr), Room k (genCx X s H scope code fp).A → PE (genCx X s H scope code fp) elt te) (hs : ∀ v, genFold iter X.env v = pure v)
    (he : starEach [.GeneratorExp elt [⟨tg, iter, ifs, 0⟩] scope gpos] X.env = (false, eval (.GeneratorExp elt [⟨tg, iter, ifs, 0⟩] scope gpos) X.env) :: starEach [] X.env) :
    PE X (.Call (.Name "sum" p) [.GeneratorExp elt [⟨tg, iter, ifs, 0⟩] scope gpos] [] pos) (tSumX T wi g tt te (own.map (·.2))) := by
  refine ⟨fun pins s σ H Q I h => ?_⟩
  refine wpAny_Call_Name_kw (ld_blt I hg hm PyProof.Rows.boot_sum ?_)
  refine PyProof.Rows.callWith_builtin1 ?_ he (by rfl)
  rw [he]
  show wpAny _ _ (spliced ((false, eval (.GeneratorExp elt [⟨tg, iter, ifs, 0⟩] scope gpos) X.env) :: backTo pos (starEach [] X.env))) _ _ s
  refine Calls.spliced_cons (gen_make (T := T) hr TB hcode hT hu B hi hs I h fun J H1 H2 it fp tn code s4 h' o tk hR x1 x2 I4 TT st4 f4 hns kp hlt hgo => Calls.spliced_nil ?_)
  obtain ⟨n, Φ, φ0, turn⟩ := hR H2 x1 x2
  have hrG : Room k (genCx X s4 H2 scope code fp).A := hr.in1.in1.deeper _
  have nfp : h'.objs.size ∉ fp := fun hb => absurd (Nat.lt_trans (f4 _ hb).2 hlt) (Nat.lt_irrefl _)
  have nfS : h'.objs.size + 1 ∉ fp := fun hb => by
    have h1 : h'.objs.size + 1 < s4.heap.objs.size := (f4 _ hb).2
    exact absurd (Nat.lt_trans hlt (Nat.lt_of_succ_lt h1)) (Nat.lt_irrefl _)
  have O : GD.Ok (β := Int) { X := X, s0 := s4, H0 := H2, scope := scope, code := code, fp := fp, elt := elt, tg := tg, iter := iter, ifs := ifs, gpos := gpos, it := it, a := h'.objs.size, S := h'.objs.size + 1, oa := o, J := J, tn := tn, n := n, σ := σ, vs := own.map (·.2), Cons := GD.SumO, Φ := Φ, Ψ := fun b i y H => ∃ v, y = .int v ∧ Φ (b + v) (i + 1) H, Qe := fun b => Q (.int b) } g tt te :=
    ⟨hr.hd, TT, nfp, nfS, B.co, hpg _ _ _ _ hrG, hpt _ _ _ _ hrG, hpe _ _ _ _ hrG, fun b i H hi ph => turn b i H hi ph⟩
  have I5 := gen_fresh (tk := tk) (gs := .fresh (.compStart (.GeneratorExp elt [⟨tg, iter, ifs, 0⟩] scope gpos) 0 (.ref it) .none (gEnv X scope s4.heap.objs.size code))) (code := code) I4 B hN hr.hd f4 hns kp hlt hgo rfl
  have pa := I5.pin (h'.objs.size, o) (List.mem_append_right _ List.mem_cons_self)
  have hsz : (h'.push o).objs.size = h'.objs.size + 1 := Heap.size_push ..
  refine call_function_tree F.kind_sum F.plain_sum F.entry_sum (F.args_sum1 _) ?_
  unfold Builtin.«sum»
  simp only [List.length_cons, List.length_nil]
  rw [if_neg (by decide)]
  refine wpAny_bind (wpAny_of_eq (show Builtin.Builtins.bindParams "sum" ["start"] 0 { } = pure [none] from rfl) ?_)
  refine wpAny_bind (wpAny_pyIter_gen (GD.isGen pa.1 hgo) ?_)
  refine wpAny_bind (wpAny_mkInt ?_)
  refine wpAny_bind (wpAny_pure ?_)
  simp only [List.forIn_cons, List.forIn_nil]
  refine wpAny_bind (wpAny_bind (wpAny_bind (wpAny_isInstance (T := "int") (b := false) (typeIs_int _ _ _) PySem.sub_int_str ?_)))
  simp only [Bool.false_eq_true, if_false]
  refine wpAny_pure (wpAny_bind (wpAny_bind (wpAny_isInstance (T := "int") (b := false) (typeIs_int _ _ _) PySem.sub_int_bytes ?_)))
  simp only [Bool.false_eq_true, if_false]
  refine wpAny_pure (wpAny_bind (wpAny_bind (wpAny_isInstance (T := "int") (b := false) (typeIs_int _ _ _) PySem.sub_int_bytearray ?_)))
  simp only [Bool.false_eq_true, if_false]
  refine wpAny_pure (wpAny_pure ?_)
  refine wpAny_bind (wpAny_newObj_type ?_)
  rw [hsz]
  refine wpAny_pure ⟨plainId_quiet F.plain_sum_loop _, GD.sum_loop O hgo hr.depth rfl (by show h'.objs.size ≠ h'.objs.size + 1; omega) (by show s4.heap.objs.size ≤ h'.objs.size + 1; omega) (fun _ _ _ _ z => z) (fun s' H o' b t I' qb => ?_) (n + 1) 0 0 0 _ (.inl rfl) ⟨by show n - 0 < n + 1; omega, Nat.zero_le _, ⟨H2, { cls := .type "list", dict := none, data := .seq #[.int 0 tk] 0, slots := #[] }, ?_, ⟨_, _, rfl⟩, ?_, fun x hx => (f4 x hx).1.1, φ0⟩, _, Array.getElem?_push_size .., fun s'' b' as => ⟨rfl, ?_⟩⟩⟩
  · exact ⟨.int b, H, back_X I4 f4 I', ⟨t, rfl⟩, qb⟩
  · have nf := I5.nofs (a := h'.objs.size + 1) (by show (h'.push o).objs.size ≤ _; omega)
    have fr := I5.hok.fresh (a := h'.objs.size + 1) (by show (h'.push o).objs.size ≤ _; omega)
    have ll := I5.lt
    have ll : s4.heap.objs.size < (h'.push o).objs.size := ll
    refine (inv_gens I5 (fun b ob e => Heap.get?_push_of_some _ e) I5.bare).pins_of fun q hq => ?_
    have hq : q ∈ [(h'.objs.size, o), (h'.objs.size + 1, ({ cls := .type "list", dict := none, data := .seq #[.int 0 tk] 0, slots := #[] } : Obj))] := hq
    rcases List.mem_cons.mp hq with e | e
    · rw [e]; exact ⟨Heap.get?_push_of_some _ pa.1, pa.2⟩
    · rw [List.mem_singleton.mp e]
      refine ⟨?_, fr, by show h'.objs.size + 1 ≠ s4.heap.objs.size; omega, nf, fun v z => by cases z⟩
      show ((h'.push o).push _).get? (h'.objs.size + 1) = _
      rw [← hsz]
      exact Heap.get?_push_size _ rfl
  · exact TT.keep _ _ _ st4 fun b _ ob e => Heap.get?_push_of_some _ (Heap.get?_push_of_some _ (kp b ob e))
  · obtain ⟨H', o', I', hC', st', nf', ph'⟩ := as
    exact GD.seg0 O (by show n < n + 1; omega) I' hC' (I'.pin (h'.objs.size + 1, o') (List.mem_append_right _ (List.mem_cons_of_mem _ List.mem_cons_self))).1 st' nf' ph' (Nat.le_refl _)
end
end DL
set_option Elab.async false
set_option linter.all false
set_option maxRecDepth 100000
set_option maxHeartbeats 2000000
/-! DN5: any, all, sum of a generator expression: the denotations. -/
namespace DL
open PySem PySem.Spec PyProof.Rows L2
/-- the walk until an item gives «stop» -/
def anyL (stop : Bool) (grd : Store → Bool) (g : DG) (tt : DT) (fe : DE) (ρ : DEnv) : List D → Store → Out Bool
  | [], S => if grd S = true then .ok (!stop) S else .bad
  | d :: ds, S => if grd S = true then (match g d ρ S with
    | .nx ρ1 S1 => (match tt ρ1 S1 with
      | .ok true S2 => (match fe ρ1 S2 with
        | .ok (.bl b) S3 => if b = stop then .ok stop S3 else anyL stop grd g tt fe ρ ds S3
        | _ => .bad)
      | .ok false S2 => anyL stop grd g tt fe ρ ds S2
      | _ => .bad)
    | _ => .bad) else .bad
def sumL (grd : Store → Bool) (g : DG) (tt : DT) (fe : DE) (ρ : DEnv) : List D → Int → Store → Out Int
  | [], acc, S => if grd S = true then .ok acc S else .bad
  | d :: ds, acc, S => if grd S = true then (match g d ρ S with
    | .nx ρ1 S1 => (match tt ρ1 S1 with
      | .ok true S2 => (match fe ρ1 S2 with
        | .ok (.int v) S3 => sumL grd g tt fe ρ ds (acc + v) S3
        | _ => .bad)
      | .ok false S2 => sumL grd g tt fe ρ ds acc S2
      | _ => .bad)
    | _ => .bad) else .bad
def dAnyX (fi : DI) (g : DG) (tt : DT) (fe : DE) (vs : List Nat) : DE := fun ρ S => (fi ρ S).bind fun src S1 => (anyL true src.grd g tt fe (wipeD ρ vs) src.items S1).bind fun b S2 => .ok (.bl b) S2
def dAllX (fi : DI) (g : DG) (tt : DT) (fe : DE) (vs : List Nat) : DE := fun ρ S => (fi ρ S).bind fun src S1 => (anyL false src.grd g tt fe (wipeD ρ vs) src.items S1).bind fun b S2 => .ok (.bl b) S2
def dSumX (fi : DI) (g : DG) (tt : DT) (fe : DE) (vs : List Nat) : DE := fun ρ S => (fi ρ S).bind fun src S1 => (sumL src.grd g tt fe (wipeD ρ vs) src.items 0 S1).bind fun b S2 => .ok (.int b) S2
theorem anyL_grd {K : PySem.W.Frag} {G : Gx} {α β : Type} {rel : List Addr → Hp → α → β → Prop} {Q : β → Hp → Prop} {Wc : Value → Option Addr → Hp → Prop} {m : List Addr} {H : Hp} {stop : Bool} {grd : Store → Bool} {g : DG} {tt : DT} {fe : DE} {ρ : DEnv} {ds : List D} {S : Store} {k : Bool → Store → Out α}
    (h : EO K G rel Q Wc m H ((anyL stop grd g tt fe ρ ds S).bind k)) : grd S = true := by
  cases q : grd S with
  | true => rfl
  | false =>
    exfalso
    cases ds with
    | nil => unfold anyL at h; rw [q] at h; exact h
    | cons d ds => unfold anyL at h; rw [q] at h; exact h
theorem sumL_grd {K : PySem.W.Frag} {G : Gx} {α β : Type} {rel : List Addr → Hp → α → β → Prop} {Q : β → Hp → Prop} {Wc : Value → Option Addr → Hp → Prop} {m : List Addr} {H : Hp} {grd : Store → Bool} {g : DG} {tt : DT} {fe : DE} {ρ : DEnv} {ds : List D} {acc : Int} {S : Store} {k : Int → Store → Out α}
    (h : EO K G rel Q Wc m H ((sumL grd g tt fe ρ ds acc S).bind k)) : grd S = true := by
  cases q : grd S with
  | true => rfl
  | false =>
    exfalso
    cases ds with
    | nil => unfold sumL at h; rw [q] at h; exact h
    | cons d ds => unfold sumL at h; rw [q] at h; exact h
section
variable {X : Cx} {G : Gx} {W : WX} {vs : List Nat} {elt tg iter : Expr} {ifs : List Expr} {scope : Scope} {own : List (Str × Nat)} {fi : DI} {g : DG} {tt : DT} {fe : DE} {c P : Addr} {k : Nat} {gpos pos p : Pos}
theorem anyX_core {σ : L2.St} {H : Hp} {Q : VK} (h : tD X.K G W (dAnyX fi g tt fe vs) σ H Q) : tAnyX G.T (tDI X.K G W fi) (tDGv X.K G W0 vs g) (tDT X.K G W0 tt) (tD X.K G W0 fe) vs σ H Q := by
  obtain ⟨m, ρ, S, sr, sm, eo⟩ := h
  refine ⟨m, ρ, S, sr, sm, EO.then (rel := SrcOk X.K G) eo fun src S1 J H1 m1 st1 sm1 w eo1 => ⟨sm1.tabs, fun H2 x1 x2 => ?_⟩⟩
  obtain ⟨st2, sm2⟩ := sim_ext sm1 x1 x2
  have sr1 := sr.mono sm st1
  refine ⟨src.items.length, fun i H => ∃ m S, Step m1 H1 m H ∧ Sim X.K G m S H ∧ EO X.K G (SV X.K) Q (fun c d H' => W c d σ H') m H ((anyL true src.grd g tt fe (wipeD ρ vs) (src.items.drop i) S).bind fun b S2 => .ok (.bl b) S2), ⟨m1, S1, st2, sm2, eo1.step st2⟩, fun i H hi ⟨m, S, st, sm, eo⟩ => ?_⟩
  have hgd := anyL_grd eo
  refine ⟨fun e => ?_, fun hlt => ⟨w.goes i H hlt ⟨m, S, st, sm, hgd⟩, fun x H' hy => ?_⟩⟩
  · subst e
    refine ⟨w.stops H ⟨m, S, st, sm, hgd⟩, ?_⟩
    rw [List.drop_length] at eo
    unfold anyL at eo
    rw [if_pos hgd] at eo
    exact eo _ H m sm.refl sm rfl
  · obtain ⟨d, hd, st3, sm3, sv⟩ := w.yields i H x H' hlt ⟨m, S, st, sm, hgd⟩ hy m S st sm hgd
    have e0 : src.items.drop i = d :: src.items.drop (i + 1) := by
      rw [List.drop_eq_getElem_cons hlt]
      rw [List.getElem?_eq_getElem hlt] at hd
      cases hd
      rfl
    rw [e0] at eo
    unfold anyL at eo
    rw [if_pos hgd] at eo
    have srw : SR X.K m H' (wipeD ρ vs) (wipe σ vs) := (sr1.mono sm1 (st.trans st3)).wipe vs
    refine ⟨m, wipeD ρ vs, S, d, srw, sm3, sv, ?_⟩
    have eo := eo.step st3
    cases e1 : g d (wipeD ρ vs) S with
    | nx ρ1 Sa =>
      rw [e1] at eo
      dsimp only at eo
      intro σ4 H4 m4 st4 sm4 sr4 ag
      refine ⟨wipe_agree ag, m4, ρ1, Sa, sr4, sm4, ?_⟩
      have eo := eo.step st4
      cases e2 : tt ρ1 Sa with
      | ok b Sb =>
        rw [e2] at eo
        intro b' H5 m5 st5 sm5 rb
        cases rb
        have eo := eo.step st5
        cases b with
        | true =>
          rw [if_pos rfl]
          dsimp only at eo
          refine ⟨m5, ρ1, Sb, sr4.mono sm4 st5, sm5, ?_⟩
          cases e3 : fe ρ1 Sb with
          | ok y Sc =>
            rw [e3] at eo
            intro u H6 m6 st6 sm6 ru
            have eo := eo.step st6
            have stZ := (((st.trans st3).trans st4).trans st5).trans st6
            cases y with
            | bl bb =>
              refine ⟨bb, ru, fun z => ?_, fun z => ?_⟩
              · subst z
                dsimp only at eo
                rw [if_pos rfl] at eo
                exact eo _ H6 m6 sm6.refl sm6 rfl
              · subst z
                dsimp only at eo
                rw [if_neg (by decide)] at eo
                exact ⟨m6, Sc, stZ, sm6, eo⟩
            | _ => exact eo.elim
          | exn x Sc => rw [e3] at eo; exact eo.elim
          | bad => rw [e3] at eo; exact eo.elim
        | false =>
          rw [if_neg Bool.false_ne_true]
          exact ⟨m5, Sb, ((st.trans st3).trans st4).trans st5, sm5, eo⟩
      | exn x Sb => rw [e2] at eo; exact eo.elim
      | bad => rw [e2] at eo; exact eo.elim
    | exn x ρ1 Sa => rw [e1] at eo; exact eo.elim
    | rt d Sa => rw [e1] at eo; exact eo.elim
    | bk ρ1 Sa => rw [e1] at eo; exact eo.elim
    | ct ρ1 Sa => rw [e1] at eo; exact eo.elim
    | bad => rw [e1] at eo; exact eo.elim
theorem je_anyX (hr : Room (k + 3) X.A) (hm : X.mg "any" = none) (TB : LamX.TabB X.base X.mg c P) (hcode : X.env.code = .ref c) (hT : (P, X.env.qual ++ "<genexpr>") ∈ G.T) (hu : ∀ p ∈ G.T, p.1 = P → p.2 = X.env.qual ++ "<genexpr>") (hN : X.N.Nodup)
    (B : GenB X.N X.env.scope scope own) (hi : JI X G W tg iter fi) (hg : ∀ (s : Shared) (H : Hp) (code : Value) (fp : List Addr), Room k (genCx X s H scope code fp).A → JGv (genCx X s H scope code fp) G W0 vs tg g) (ht : ∀ (s : Shared) (H : Hp) (code : Value) (fp : List Addr), Room k (genCx X s H scope code fp).A → JTs (genCx X s H scope code fp) G W0 ifs tt)
    (he : ∀ (s : Shared) (H : Hp) (code : Value) (fp : List Addr), Room k (genCx X s H scope code fp).A → JE (genCx X s H scope code fp) G W0 elt fe) (hg2 : Gl X "any" := by rfl) (hs : ∀ v, genFold iter X.env v = pure v := by intro _; rfl)
    (hst : starEach [.GeneratorExp elt [⟨tg, iter, ifs, 0⟩] scope gpos] X.env = (false, eval (.GeneratorExp elt [⟨tg, iter, ifs, 0⟩] scope gpos) X.env) :: starEach [] X.env := by rfl) (hvs : own.map (·.2) = vs := by rfl) :
    JE X G W (.Call (.Name "any" p) [.GeneratorExp elt [⟨tg, iter, ifs, 0⟩] scope gpos] [] pos) (dAnyX fi g tt fe vs) := by
  subst hvs
  exact PE.imp (pe_anyX hr hg2 hm TB hcode hT hu hN B hi hg ht he hs hst) fun σ H Q h => anyX_core h
theorem allX_core {σ : L2.St} {H : Hp} {Q : VK} (h : tD X.K G W (dAllX fi g tt fe vs) σ H Q) : tAllX G.T (tDI X.K G W fi) (tDGv X.K G W0 vs g) (tDT X.K G W0 tt) (tD X.K G W0 fe) vs σ H Q := by
  obtain ⟨m, ρ, S, sr, sm, eo⟩ := h
  refine ⟨m, ρ, S, sr, sm, EO.then (rel := SrcOk X.K G) eo fun src S1 J H1 m1 st1 sm1 w eo1 => ⟨sm1.tabs, fun H2 x1 x2 => ?_⟩⟩
  obtain ⟨st2, sm2⟩ := sim_ext sm1 x1 x2
  have sr1 := sr.mono sm st1
  refine ⟨src.items.length, fun i H => ∃ m S, Step m1 H1 m H ∧ Sim X.K G m S H ∧ EO X.K G (SV X.K) Q (fun c d H' => W c d σ H') m H ((anyL false src.grd g tt fe (wipeD ρ vs) (src.items.drop i) S).bind fun b S2 => .ok (.bl b) S2), ⟨m1, S1, st2, sm2, eo1.step st2⟩, fun i H hi ⟨m, S, st, sm, eo⟩ => ?_⟩
  have hgd := anyL_grd eo
  refine ⟨fun e => ?_, fun hlt => ⟨w.goes i H hlt ⟨m, S, st, sm, hgd⟩, fun x H' hy => ?_⟩⟩
  · subst e
    refine ⟨w.stops H ⟨m, S, st, sm, hgd⟩, ?_⟩
    rw [List.drop_length] at eo
    unfold anyL at eo
    rw [if_pos hgd] at eo
    exact eo _ H m sm.refl sm rfl
  · obtain ⟨d, hd, st3, sm3, sv⟩ := w.yields i H x H' hlt ⟨m, S, st, sm, hgd⟩ hy m S st sm hgd
    have e0 : src.items.drop i = d :: src.items.drop (i + 1) := by
      rw [List.drop_eq_getElem_cons hlt]
      rw [List.getElem?_eq_getElem hlt] at hd
      cases hd
      rfl
    rw [e0] at eo
    unfold anyL at eo
    rw [if_pos hgd] at eo
    have srw : SR X.K m H' (wipeD ρ vs) (wipe σ vs) := (sr1.mono sm1 (st.trans st3)).wipe vs
    refine ⟨m, wipeD ρ vs, S, d, srw, sm3, sv, ?_⟩
    have eo := eo.step st3
    cases e1 : g d (wipeD ρ vs) S with
    | nx ρ1 Sa =>
      rw [e1] at eo
      dsimp only at eo
      intro σ4 H4 m4 st4 sm4 sr4 ag
      refine ⟨wipe_agree ag, m4, ρ1, Sa, sr4, sm4, ?_⟩
      have eo := eo.step st4
      cases e2 : tt ρ1 Sa with
      | ok b Sb =>
        rw [e2] at eo
        intro b' H5 m5 st5 sm5 rb
        cases rb
        have eo := eo.step st5
        cases b with
        | true =>
          rw [if_pos rfl]
          dsimp only at eo
          refine ⟨m5, ρ1, Sb, sr4.mono sm4 st5, sm5, ?_⟩
          cases e3 : fe ρ1 Sb with
          | ok y Sc =>
            rw [e3] at eo
            intro u H6 m6 st6 sm6 ru
            have eo := eo.step st6
            have stZ := (((st.trans st3).trans st4).trans st5).trans st6
            cases y with
            | bl bb =>
              refine ⟨bb, ru, fun z => ?_, fun z => ?_⟩
              · subst z
                dsimp only at eo
                rw [if_pos rfl] at eo
                exact eo _ H6 m6 sm6.refl sm6 rfl
              · subst z
                dsimp only at eo
                rw [if_neg (by decide)] at eo
                exact ⟨m6, Sc, stZ, sm6, eo⟩
            | _ => exact eo.elim
          | exn x Sc => rw [e3] at eo; exact eo.elim
          | bad => rw [e3] at eo; exact eo.elim
        | false =>
          rw [if_neg Bool.false_ne_true]
          exact ⟨m5, Sb, ((st.trans st3).trans st4).trans st5, sm5, eo⟩
      | exn x Sb => rw [e2] at eo; exact eo.elim
      | bad => rw [e2] at eo; exact eo.elim
    | exn x ρ1 Sa => rw [e1] at eo; exact eo.elim
    | rt d Sa => rw [e1] at eo; exact eo.elim
    | bk ρ1 Sa => rw [e1] at eo; exact eo.elim
    | ct ρ1 Sa => rw [e1] at eo; exact eo.elim
    | bad => rw [e1] at eo; exact eo.elim
theorem je_allX (hr : Room (k + 3) X.A) (hm : X.mg "all" = none) (TB : LamX.TabB X.base X.mg c P) (hcode : X.env.code = .ref c) (hT : (P, X.env.qual ++ "<genexpr>") ∈ G.T) (hu : ∀ p ∈ G.T, p.1 = P → p.2 = X.env.qual ++ "<genexpr>") (hN : X.N.Nodup)
    (B : GenB X.N X.env.scope scope own) (hi : JI X G W tg iter fi) (hg : ∀ (s : Shared) (H : Hp) (code : Value) (fp : List Addr), Room k (genCx X s H scope code fp).A → JGv (genCx X s H scope code fp) G W0 vs tg g) (ht : ∀ (s : Shared) (H : Hp) (code : Value) (fp : List Addr), Room k (genCx X s H scope code fp).A → JTs (genCx X s H scope code fp) G W0 ifs tt)
    (he : ∀ (s : Shared) (H : Hp) (code : Value) (fp : List Addr), Room k (genCx X s H scope code fp).A → JE (genCx X s H scope code fp) G W0 elt fe) (hg2 : Gl X "all" := by rfl) (hs : ∀ v, genFold iter X.env v = pure v := by intro _; rfl)
    (hst : starEach [.GeneratorExp elt [⟨tg, iter, ifs, 0⟩] scope gpos] X.env = (false, eval (.GeneratorExp elt [⟨tg, iter, ifs, 0⟩] scope gpos) X.env) :: starEach [] X.env := by rfl) (hvs : own.map (·.2) = vs := by rfl) :
    JE X G W (.Call (.Name "all" p) [.GeneratorExp elt [⟨tg, iter, ifs, 0⟩] scope gpos] [] pos) (dAllX fi g tt fe vs) := by
  subst hvs
  exact PE.imp (pe_allX hr hg2 hm TB hcode hT hu hN B hi hg ht he hs hst) fun σ H Q h => allX_core h
theorem sumX_core {σ : L2.St} {H : Hp} {Q : VK} (h : tD X.K G W (dSumX fi g tt fe vs) σ H Q) : tSumX G.T (tDI X.K G W fi) (tDGv X.K G W0 vs g) (tDT X.K G W0 tt) (tD X.K G W0 fe) vs σ H Q := by
  obtain ⟨m, ρ, S, sr, sm, eo⟩ := h
  refine ⟨m, ρ, S, sr, sm, EO.then (rel := SrcOk X.K G) eo fun src S1 J H1 m1 st1 sm1 w eo1 => ⟨sm1.tabs, fun H2 x1 x2 => ?_⟩⟩
  obtain ⟨st2, sm2⟩ := sim_ext sm1 x1 x2
  have sr1 := sr.mono sm st1
  refine ⟨src.items.length, fun b i H => ∃ m S, Step m1 H1 m H ∧ Sim X.K G m S H ∧ EO X.K G (SV X.K) Q (fun c d H' => W c d σ H') m H ((sumL src.grd g tt fe (wipeD ρ vs) (src.items.drop i) b S).bind fun b S2 => .ok (.int b) S2), ⟨m1, S1, st2, sm2, eo1.step st2⟩, fun b => fun i H hi ⟨m, S, st, sm, eo⟩ => ?_⟩
  have hgd := sumL_grd eo
  refine ⟨fun e => ?_, fun hlt => ⟨w.goes i H hlt ⟨m, S, st, sm, hgd⟩, fun x H' hy => ?_⟩⟩
  · subst e
    refine ⟨w.stops H ⟨m, S, st, sm, hgd⟩, ?_⟩
    rw [List.drop_length] at eo
    unfold sumL at eo
    rw [if_pos hgd] at eo
    exact eo _ H m sm.refl sm rfl
  · obtain ⟨d, hd, st3, sm3, sv⟩ := w.yields i H x H' hlt ⟨m, S, st, sm, hgd⟩ hy m S st sm hgd
    have e0 : src.items.drop i = d :: src.items.drop (i + 1) := by
      rw [List.drop_eq_getElem_cons hlt]
      rw [List.getElem?_eq_getElem hlt] at hd
      cases hd
      rfl
    rw [e0] at eo
    unfold sumL at eo
    rw [if_pos hgd] at eo
    have srw : SR X.K m H' (wipeD ρ vs) (wipe σ vs) := (sr1.mono sm1 (st.trans st3)).wipe vs
    refine ⟨m, wipeD ρ vs, S, d, srw, sm3, sv, ?_⟩
    have eo := eo.step st3
    cases e1 : g d (wipeD ρ vs) S with
    | nx ρ1 Sa =>
      rw [e1] at eo
      dsimp only at eo
      intro σ4 H4 m4 st4 sm4 sr4 ag
      refine ⟨wipe_agree ag, m4, ρ1, Sa, sr4, sm4, ?_⟩
      have eo := eo.step st4
      cases e2 : tt ρ1 Sa with
      | ok b Sb =>
        rw [e2] at eo
        intro b' H5 m5 st5 sm5 rb
        cases rb
        have eo := eo.step st5
        cases b with
        | true =>
          rw [if_pos rfl]
          dsimp only at eo
          refine ⟨m5, ρ1, Sb, sr4.mono sm4 st5, sm5, ?_⟩
          cases e3 : fe ρ1 Sb with
          | ok y Sc =>
            rw [e3] at eo
            intro u H6 m6 st6 sm6 ru
            have eo := eo.step st6
            have stZ := (((st.trans st3).trans st4).trans st5).trans st6
            cases y with
            | int v => exact ⟨v, ru, m6, Sc, stZ, sm6, eo⟩
            | _ => exact eo.elim
          | exn x Sc => rw [e3] at eo; exact eo.elim
          | bad => rw [e3] at eo; exact eo.elim
        | false =>
          rw [if_neg Bool.false_ne_true]
          exact ⟨m5, Sb, ((st.trans st3).trans st4).trans st5, sm5, eo⟩
      | exn x Sb => rw [e2] at eo; exact eo.elim
      | bad => rw [e2] at eo; exact eo.elim
    | exn x ρ1 Sa => rw [e1] at eo; exact eo.elim
    | rt d Sa => rw [e1] at eo; exact eo.elim
    | bk ρ1 Sa => rw [e1] at eo; exact eo.elim
    | ct ρ1 Sa => rw [e1] at eo; exact eo.elim
    | bad => rw [e1] at eo; exact eo.elim
theorem je_sumX (hr : Room (k + 3) X.A) (hm : X.mg "sum" = none) (TB : LamX.TabB X.base X.mg c P) (hcode : X.env.code = .ref c) (hT : (P, X.env.qual ++ "<genexpr>") ∈ G.T) (hu : ∀ p ∈ G.T, p.1 = P → p.2 = X.env.qual ++ "<genexpr>") (hN : X.N.Nodup)
    (B : GenB X.N X.env.scope scope own) (hi : JI X G W tg iter fi) (hg : ∀ (s : Shared) (H : Hp) (code : Value) (fp : List Addr), Room k (genCx X s H scope code fp).A → JGv (genCx X s H scope code fp) G W0 vs tg g) (ht : ∀ (s : Shared) (H : Hp) (code : Value) (fp : List Addr), Room k (genCx X s H scope code fp).A → JTs (genCx X s H scope code fp) G W0 ifs tt)
    (he : ∀ (s : Shared) (H : Hp) (code : Value) (fp : List Addr), Room k (genCx X s H scope code fp).A → JE (genCx X s H scope code fp) G W0 elt fe) (hg2 : Gl X "sum" := by rfl) (hs : ∀ v, genFold iter X.env v = pure v := by intro _; rfl)
    (hst : starEach [.GeneratorExp elt [⟨tg, iter, ifs, 0⟩] scope gpos] X.env = (false, eval (.GeneratorExp elt [⟨tg, iter, ifs, 0⟩] scope gpos) X.env) :: starEach [] X.env := by rfl) (hvs : own.map (·.2) = vs := by rfl) :
    JE X G W (.Call (.Name "sum" p) [.GeneratorExp elt [⟨tg, iter, ifs, 0⟩] scope gpos] [] pos) (dSumX fi g tt fe vs) := by
  subst hvs
  exact PE.imp (pe_sumX hr hg2 hm TB hcode hT hu hN B hi hg ht he hs hst) fun σ H Q h => sumX_core h
end
end DL
set_option Elab.async false
set_option linter.all false
set_option maxRecDepth 100000
set_option maxHeartbeats 4000000
/-! DN6: zip of two sequences of any kind; pop, extend; xs[i] op= e. -/
namespace DL
open PySem PySem.Spec PyProof.Rows L2
/-! ### zip -/
inductive Sd where
  | l | t
def Sd.Sq (K : PySem.W.Frag) : Sd → Hp → Addr → List V → Prop
  | .l => SqL K
  | .t => SqT K
def Sd.it : Sd → Heap → Addr → Addr → Nat → Prop
  | .l => Heap.IsListIter
  | .t => Heap.IsTupleIter
def Sd.sq : Sd → Heap → Addr → Array Value → Prop
  | .l => Heap.IsList
  | .t => Heap.IsTuple
def Sd.ob (d : Sd) (a : Addr) : Obj := { cls := .type (match d with | .l => "list_iterator" | .t => "tuple_iterator"), data := .fields #[.ref a, .int 0 0] }
theorem Sd.draws (d : Sd) {prog : Program} {w : World} {A : Around} (hh : A.handled = none) (it a : Addr) (hne : a ≠ it) (items : Array Value) :
    Draws prog w A it [it, a] items.size (fun i v => items[i]? = some v) (fun i h => d.it h it a i ∧ d.sq h a items) := by
  cases d with
  | l => exact Draws.list hh it a hne items
  | t => exact Draws.tuple hh it a hne items
theorem Sd.begins (d : Sd) (a : Addr) (items : Array Value) : Begins (.ref a) (d.ob a) fun h => d.sq h a items := by
  cases d with
  | l => exact begins_list a items
  | t => exact begins_tuple a items
theorem Sd.it_at (d : Sd) {h h' : Heap} {it a : Addr} {k : Nat} (x : d.it h it a k) (e : ∀ o, h.get? it = some o → h'.get? it = some o) : d.it h' it a k := by
  cases d with
  | l => exact Heap.IsListIter.at x e
  | t => exact Heap.IsTupleIter.at x e
theorem Sd.it_obj (d : Sd) {h : Heap} {it a : Addr} {k : Nat} (x : d.it h it a k) : ∃ o, h.get? it = some o ∧ ∀ v, o.data ≠ .cell v := by
  cases d with
  | l => obtain ⟨o, e, c, dd⟩ := x; exact ⟨o, e, fun v z => by rw [dd] at z; cases z⟩
  | t => obtain ⟨o, e, c, dd⟩ := x; exact ⟨o, e, fun v z => by rw [dd] at z; cases z⟩
theorem Sd.it_new (d : Sd) {h : Heap} {it a : Addr} (e : h.get? it = some (d.ob a)) : d.it h it a 0 := by
  cases d with
  | l => exact ⟨_, e, rfl, rfl⟩
  | t => exact ⟨_, e, rfl, rfl⟩
theorem Sd.sq_lt (d : Sd) {h : Heap} {a : Addr} {items : Array Value} (x : d.sq h a items) : a < h.objs.size := by
  cases d with
  | l => obtain ⟨o, e, _⟩ := x; exact Heap.lt_size e
  | t => obtain ⟨o, e, _⟩ := x; exact Heap.lt_size e
section
variable {X : Cx} {pins : List (Addr × Obj)} {σ : L2.St} {H : Hp} {s : Shared} {a : Addr} {xs : List V}
theorem Sd.inv (d : Sd) (I : Inv X pins σ H s) (h : d.Sq X.K H a xs) : ∃ its, Vals xs its ∧ d.sq s.heap a its.toArray := by
  cases d with
  | l => obtain ⟨its, rv, p, _⟩ := I.list h; exact ⟨its, rv, p.isList⟩
  | t => obtain ⟨its, rv, p, _⟩ := I.tuple h; exact ⟨its, rv, p⟩
theorem Sd.inj (d : Sd) (I : Inv X pins σ H s) {ys : List V} (h : d.Sq X.K H a xs) (h' : d.Sq X.K H a ys) : xs = ys := by
  cases d with
  | l => exact I.list_inj h h'
  | t => exact I.tuple_inj h h'
end
def ItzS (K : PySem.W.Frag) (d1 d2 : Sd) (a b : Addr) : It :=
  ⟨fun i H => ∃ (xs ys : List V) (x y : V), d1.Sq K H a xs ∧ d2.Sq K H b ys ∧ xs[i]? = some x ∧ ys[i]? = some y,
    fun i H v H' => ∃ T x y, v = .ref T ∧ H T = none ∧ H' = upd H T (.tup [x, y]) ∧ (∀ xs, d1.Sq K H a xs → xs[i]? = some x) ∧ ∀ ys, d2.Sq K H b ys → ys[i]? = some y,
    fun i H => ∃ xs ys : List V, d1.Sq K H a xs ∧ d2.Sq K H b ys ∧ i ≤ xs.length ∧ i ≤ ys.length ∧ (i = xs.length ∨ i = ys.length)⟩
/-- the cells of the zip lie apart, and from what it walks -/
structure ZSep (z TI TO i1 i2 a b : Addr) : Prop where
  s : ZipSep2 z TI TO i1 i2 [i1, a] [i2, b]
  a1 : a ≠ i1
  b2 : b ≠ i2
theorem turn_zipS {P : Program} {w : World} {K : PySem.W.Frag} {elts : List Expr} {kk : Nat} {tpos : Pos} {d1 d2 : Sd} {a b z TI TO i1 i2 : Addr} (D : ZSep z TI TO i1 i2 a b) :
    Turn P w K (.Tuple elts kk tpos) (ItzS K d1 d2 a b) [z, TI, TO, i1, i2] z (fun i h => IsZip h z TI TO .none ∧ IsPair h TI (.ref i1) (.ref i2) ∧ (∃ x y, IsPair h TO x y) ∧ d1.it h i1 a i ∧ d2.it h i2 b i) where
  mem := by simp
  obj := fun i h st c hc => by
    obtain ⟨hz, hTI, ⟨x, y, hTO⟩, h1, h2⟩ := st
    have e' : c = z ∨ c = TI ∨ c = TO ∨ c = i1 ∨ c = i2 := by simpa using hc
    rcases e' with q | q | q | q | q
    · rw [q]; exact ⟨_, hz, fun v q => nomatch q⟩
    · rw [q]; exact ⟨_, hTI, fun v q => nomatch q⟩
    · rw [q]; exact ⟨_, hTO, fun v q => nomatch q⟩
    · rw [q]; exact d1.it_obj h1
    · rw [q]; exact d2.it_obj h2
  keep := fun i h h' st k => by
    obtain ⟨hz, hTI, ⟨x, y, hTO⟩, h1, h2⟩ := st
    exact ⟨k z (by simp) _ hz, k TI (by simp) _ hTI, ⟨x, y, k TO (by simp) _ hTO⟩, d1.it_at h1 fun o q => k i1 (by simp) o q, d2.it_at h2 fun o q => k i2 (by simp) o q⟩
  item := by
    intro X hP hw hK hc i pins s σ H E I hf st hg
    subst hP hw hK
    obtain ⟨hz, hTI, ⟨x0, y0, hTO⟩, h1, h2⟩ := st
    obtain ⟨xs, ys, x, y, hqx, hqy, hx, hy⟩ := hg
    obtain ⟨its, rv, p⟩ := d1.inv I hqx
    obtain ⟨its2, rv2, p2⟩ := d2.inv I hqy
    obtain ⟨u, hu, ru⟩ := rv.get hx
    obtain ⟨u2, hu2, ru2⟩ := rv2.get hy
    have hzl : z < s.heap.objs.size := Heap.lt_size hz
    have hl1 : i < its.toArray.size := by simpa using (List.getElem?_eq_some_iff.mp hu).1
    have hl2 : i < its2.toArray.size := by simpa using (List.getElem?_eq_some_iff.mp hu2).1
    have hh : X.A.in1.handled = none := I.ok.hd hc
    refine wpAny_pyNext_zipD2_item D.s (d1.draws hh i1 a D.a1 its.toArray) (d2.draws hh i2 b D.b2 its2.toArray) hz hTI hTO ⟨h1, p⟩ ⟨h2, p2⟩ hl1 hl2 fun w1 w2 h' tk y1 y2 z' TO' h1' h2' hT hsz hk => ?_
    have e1 : w1 = u := by
      have y1 : its.toArray[i]? = some w1 := y1
      have hu' : its.toArray[i]? = some u := by simpa using hu
      rw [y1] at hu'; exact Option.some.inj hu'
    have e2 : w2 = u2 := by
      have y2 : its2.toArray[i]? = some w2 := y2
      have hu' : its2.toArray[i]? = some u2 := by simpa using hu2
      rw [y2] at hu'; exact Option.some.inj hu'
    subst e1 e2
    refine ⟨_, rfl, wpAny_letOwnedTupleGo_zip (s := { s with heap := h', toks := tk }) z' fun h'' z'' sb => ?_⟩
    have hT2 : h''.get? s.heap.objs.size = some { cls := .type "tuple", data := .seq #[w1, w2] } := (sb.2 _ (Nat.ne_of_gt hzl)).trans hT
    have new : ObjOk X.prog X.w (upd H s.heap.objs.size (.tup [x, y])) h'' s.heap.objs.size (.tup [x, y]) :=
      ⟨by show 2 ≤ sizeLine; decide, [w1, w2], .cons ru (.cons ru2 .nil), ⟨_, hT2, rfl, _, rfl⟩⟩
    have I1 : Inv X pins σ (upd H s.heap.objs.size (.tup [x, y])) { s with heap := h'', toks := tk } :=
      I.turnedNew (t' := tk) (ch := [z, TI, TO, i1, i2]) (fun c o hb q => (sb.2 c (fun q' => hb (by simp [q']))).trans (hk c o (fun q' => hb (by simp [q'])) (fun q' => hb (by simp [q'])) (fun q' => hb (by simp [q'])) (fun q' => hb (by simp [q'])) q)) hf (Nat.le_refl _) new
    refine ⟨.ref s.heap.objs.size, _, I1, rfl, ⟨_, x, y, rfl, I.hok.fresh (Nat.le_refl _), rfl, fun l hl => by rw [d1.inj I hl hqx]; exact hx, fun l hl => by rw [d2.inj I hl hqy]; exact hy⟩, ⟨z'', ?_, ⟨w1, w2, ?_⟩, ?_, ?_⟩, fun c hcm => ?_⟩
    · refine (sb.2 _ D.s.TIz).trans (hk _ _ D.s.TIz D.s.TITO D.s.TIi1 D.s.TIi2 hTI)
    · exact (sb.2 _ D.s.TOz).trans TO'
    · exact d1.it_at h1'.1 fun o q => (sb.2 _ (Ne.symm D.s.zi1)).trans q
    · exact d2.it_at h2'.1 fun o q => (sb.2 _ (Ne.symm D.s.zi2)).trans q
    · have hlt : c < s.heap.objs.size := by
        have e' : c = z ∨ c = TI ∨ c = TO ∨ c = i1 ∨ c = i2 := by simpa using hcm
        rcases e' with q | q | q | q | q
        · rw [q]; exact hzl
        · rw [q]; exact Heap.lt_size hTI
        · rw [q]; exact Heap.lt_size hTO
        · rw [q]; obtain ⟨_, e1, _⟩ := d1.it_obj h1; exact Heap.lt_size e1
        · rw [q]; obtain ⟨_, e2, _⟩ := d2.it_obj h2; exact Heap.lt_size e2
      rw [upd_ne (Nat.ne_of_lt hlt)]
      exact (hf c hcm).1
  done := by
    intro X hP hw hK hc i pins s σ H E I hf st hg
    subst hP hw hK
    obtain ⟨hz, hTI, ⟨x0, y0, hTO⟩, h1, h2⟩ := st
    obtain ⟨xs, ys, hqx, hqy, hle1, hle2, hend⟩ := hg
    obtain ⟨its, rv, p⟩ := d1.inv I hqx
    obtain ⟨its2, rv2, p2⟩ := d2.inv I hqy
    have l1 := rv.length
    have l2 := rv2.length
    have hh : X.A.in1.handled = none := I.ok.hd hc
    exact wpAny_pyNext_zipD2_end D.s (d1.draws hh i1 a D.a1 its.toArray) (d2.draws hh i2 b D.b2 its2.toArray) hz hTI hTO ⟨h1, p⟩ ⟨h2, p2⟩ (by rw [List.size_toArray]; omega) (by rw [List.size_toArray]; omega) (by rw [List.size_toArray, List.size_toArray]; omega)
      fun h' tk hk => ⟨rfl, I.turnedL (t' := tk) (ch := [z, TI, TO, i1, i2]) (fun c o hb q =>
        hk c o (fun q' => hb (by simp [q'])) (fun q' => hb (by simp [q'])) (fun q' => hb (by simp [q'])) (fun q' => hb (by simp [q'])) q) hf⟩
  self := fun A i s Q E st h => wpAny_pyIter_zip st.1 h
theorem neA {a b : Nat} (h : a ≠ b) : (a : Addr) ≠ b := h
theorem zsep_new (I a b : Nat) (h1 : a < I) (h2 : b < I) : ZSep (I + 4) (I + 2) (I + 3) I (I + 1) a b := by
  have ne : ∀ {x y : Nat}, x ≠ y → (show Addr from x) ≠ (show Addr from y) := fun h => h
  refine ⟨⟨ne (by omega), ne (by omega), ne (by omega), ne (by omega), by simp, ?_, ?_, ne (by omega), by simp, ?_, ?_, ?_, ?_⟩, ne (by omega), ne (by omega)⟩ <;>
  · intro z
    have z' := List.mem_cons.mp z
    rcases z' with q | q
    · have q : (_ : Nat) = _ := q
      omega
    · have q : (_ : Nat) = _ := List.mem_singleton.mp q
      omega
def iZipS (K : PySem.W.Frag) (ta : TA) : TI := fun σ H R => ta σ H fun vs H1 => ∃ d1 d2 a b xs ys, vs = [.ref a, .ref b] ∧ Sd.Sq K d1 H1 a xs ∧ Sd.Sq K d2 H1 b ys ∧ R (ItzS K d1 d2 a b) H1
theorem pi_zipS {X : Cx} {e e2 : Expr} {ta : TA} {p pos tpos : Pos} {elts : List Expr} {kk : Nat} (hg : Gl X "zip") (hm : X.mg "zip" = none) (ha : PA X [e, e2] ta)
    (hs : starEach [e, e2] X.env = (false, eval e X.env) :: starEach [e2] X.env := by rfl) (hpl : (backTo pos (starEach [e2] X.env)).any (·.1) = false := by rfl) :
    PI X (.Tuple elts kk tpos) (.Call (.Name "zip" p) [e, e2] [] pos) (iZipS X.K ta) := by
  refine ⟨fun pins s σ H R I h => ?_⟩
  refine Call_ (ld_blt I hg hm PyProof.Rows.boot_zip (PyProof.Rows.callWith_type1 (thn (ha.run pos pins s σ H _ I h) fun us s1 ⟨vs, H1, I1, r1, q1⟩ => ?_) hs hpl))
  obtain ⟨d1, d2, a, b, xs, ys, ex, hqx, hqy, q⟩ := q1
  subst ex
  cases r1 with
  | cons r rr =>
    cases rr with
    | cons r' rr =>
      cases rr
      cases r
      cases r'
      obtain ⟨its, rv, p1⟩ := d1.inv I1 hqx
      obtain ⟨its2, rv2, p2⟩ := d2.inv I1 hqy
      refine zip_begins2 (d1.begins a its.toArray) (d2.begins b its2.toArray) p1 p2 fun h' hz hTI hTO h1 h2 hsz hk => wpAny_pyIter_zip hz ?_
      have I2 : Inv X pins σ H1 { s1 with heap := h' } := I1.kept (t' := s1.toks) hk
      refine ⟨s1.heap.objs.size + 4, [s1.heap.objs.size + 4, s1.heap.objs.size + 2, s1.heap.objs.size + 3, s1.heap.objs.size, s1.heap.objs.size + 1], _, _, H1, rfl, I2, turn_zipS (zsep_new s1.heap.objs.size a b (d1.sq_lt p1) (d2.sq_lt p2)), ⟨hz, hTI, ⟨_, _, hTO⟩, d1.it_new h1, d2.it_new h2⟩, fun c hcm => ?_, q⟩
      have e' : c = s1.heap.objs.size + 4 ∨ c = s1.heap.objs.size + 2 ∨ c = s1.heap.objs.size + 3 ∨ c = s1.heap.objs.size ∨ c = s1.heap.objs.size + 1 := by simpa using hcm
      have hle : s1.heap.objs.size ≤ c := by
        rcases e' with z | z | z | z | z
        · rw [z]; exact Nat.le_add_right _ _
        · rw [z]; exact Nat.le_add_right _ _
        · rw [z]; exact Nat.le_add_right _ _
        · rw [z]; exact Nat.le_refl _
        · rw [z]; exact Nat.le_add_right _ _
      exact I1.fpOk hle (I1.hok.fresh hle)
def zipD : List D → List D → List D
  | x :: xs, y :: ys => .tup [x, y] :: zipD xs ys
  | _, _ => []
theorem zipD_len : ∀ (xs ys : List D), (zipD xs ys).length = min xs.length ys.length
  | [], _ => by simp [zipD]
  | _ :: _, [] => by simp [zipD]
  | x :: xs, y :: ys => by simp [zipD, zipD_len xs ys]
theorem zipD_at : ∀ {xs ys : List D} {i : Nat} {x y : D}, xs[i]? = some x → ys[i]? = some y → (zipD xs ys)[i]? = some (.tup [x, y])
  | [], _, i, _, _, h, _ => by simp at h
  | _ :: _, [], i, _, _, _, h => by simp at h
  | x :: xs, y :: ys, 0, a, b, h, h' => by simp at h h'; subst h h'; simp [zipD]
  | x :: xs, y :: ys, i + 1, a, b, h, h' => by simpa [zipD] using zipD_at (xs := xs) (ys := ys) (i := i) (by simpa using h) (by simpa using h')
def grdQ (d : D) (xs : List D) : Store → Bool := match d with
  | .obj n => grdL n xs
  | _ => grdT
def diZip (fa fb : DE) : DI := fun ρ S => (fa ρ S).bind fun d S1 => (fb ρ S1).bind fun e S2 => match seqAt S2 d, seqAt S2 e with
  | some xs, some ys => .ok ⟨zipD xs ys, fun S => grdQ d xs S && grdQ e ys S⟩ S2
  | _, _ => .bad
section
variable {K : PySem.W.Frag} {G : Gx} {m1 : List Addr} {H1 : Hp} {S1 : Store}
/-- a sequence that stands still: by its side -/
theorem side_of {d : D} {v : V} {xs : List D} (sm : Sim K G m1 S1 H1) (h : seqAt S1 d = some xs) (r : SV K m1 H1 d v) : ∃ (sd : Sd) (a : Addr), v = .ref a ∧ ∀ (H' : Hp) (m' : List Addr) (S' : Store), Step m1 H1 m' H' → Sim K G m' S' H' → grdQ d xs S' = true → ∃ us, sd.Sq K H' a us ∧ SVs K m' H' xs us := by
  cases d with
  | tup ys => cases h; obtain ⟨p, vs, e, q, r⟩ := r; exact ⟨.t, p, e, fun H' m' S' st sm' _ => ⟨vs, sqT_step sm st q, r.mono sm st⟩⟩
  | fl ys => cases h; obtain ⟨p, vs, e, q, r⟩ := r; exact ⟨.l, p, e, fun H' m' S' st sm' _ => ⟨vs, (sqF_step sm st q).l, r.mono sm st⟩⟩
  | obj n =>
    obtain ⟨a, e, hm⟩ := r
    refine ⟨.l, a, e, fun H' m' S' st sm' hg => ?_⟩
    obtain ⟨a', us, h1, h2, h3⟩ := lstAt_ok sm' (grdL_ok hg)
    rw [st.get hm] at h1; cases h1
    exact ⟨us, SqL.of h2, h3⟩
  | _ => cases h
theorem grdQ_here {d : D} {xs : List D} (h : seqAt S1 d = some xs) : grdQ d xs S1 = true := by
  cases d with
  | obj n =>
    show grdL n xs S1 = true
    unfold grdL
    rw [show lstAt S1 n = some xs from h]
    exact D.beqs_refl xs
  | _ => rfl
theorem srcOk_zip {d e : D} {xs ys : List D} {sd1 sd2 : Sd} {a b : Addr}
    (k1 : ∀ (H' : Hp) (m' : List Addr) (S' : Store), Step m1 H1 m' H' → Sim K G m' S' H' → grdQ d xs S' = true → ∃ us, sd1.Sq K H' a us ∧ SVs K m' H' xs us)
    (k2 : ∀ (H' : Hp) (m' : List Addr) (S' : Store), Step m1 H1 m' H' → Sim K G m' S' H' → grdQ e ys S' = true → ∃ us, sd2.Sq K H' b us ∧ SVs K m' H' ys us) :
    SrcOk K G m1 H1 ⟨zipD xs ys, fun S => grdQ d xs S && grdQ e ys S⟩ (ItzS K sd1 sd2 a b) := by
  show Walk _ (zipD xs ys).length _ _
  rw [zipD_len]
  refine ⟨fun i H' hi ⟨m', S', st, sm', hg⟩ => ?_, fun H' ⟨m', S', st, sm', hg⟩ => ?_, fun i H' x H'' hi _ hy m' S' st sm' hg => ?_⟩
  · have hg' := Bool.and_eq_true_iff.mp hg
    obtain ⟨us, q1, r1⟩ := k1 H' m' S' st sm' hg'.1
    obtain ⟨ws, q2, r2⟩ := k2 H' m' S' st sm' hg'.2
    have l1 := r1.len
    have l2 := r2.len
    exact ⟨us, ws, us[i]'(by omega), ws[i]'(by omega), q1, q2, by simp, by simp⟩
  · have hg' := Bool.and_eq_true_iff.mp hg
    obtain ⟨us, q1, r1⟩ := k1 H' m' S' st sm' hg'.1
    obtain ⟨ws, q2, r2⟩ := k2 H' m' S' st sm' hg'.2
    have l1 := r1.len
    have l2 := r2.len
    exact ⟨us, ws, q1, q2, by omega, by omega, by omega⟩
  · have hg' := Bool.and_eq_true_iff.mp hg
    obtain ⟨us, q1, r1⟩ := k1 H' m' S' st sm' hg'.1
    obtain ⟨ws, q2, r2⟩ := k2 H' m' S' st sm' hg'.2
    obtain ⟨T, p, q, rfl, hT, rfl, e1, e2⟩ := hy
    have h1 : i < xs.length := by omega
    have h2 : i < ys.length := by omega
    obtain ⟨v, f1, f2⟩ := r1.get (i := i) (d := xs[i]) (by simp [h1])
    obtain ⟨u, f3, f4⟩ := r2.get (i := i) (d := ys[i]) (by simp [h2])
    rw [e1 us q1] at f1
    rw [e2 ws q2] at f3
    cases f1
    cases f3
    exact ⟨_, zipD_at (x := xs[i]) (y := ys[i]) (by simp [h1]) (by simp [h2]), Step.beside sm' hT, sm'.beside hT, sv_tup (ds := [xs[i], ys[i]]) ⟨_, _, rfl, f2, SVs.one f4⟩ sm' hT⟩
end
section
variable {X : Cx} {G : Gx} {W : WX} {e e2 : Expr} {fa fb : DE} {p pos tpos : Pos} {elts : List Expr} {kk : Nat}
theorem ji_zip (hm : X.mg "zip" = none) (ha : JE X G W e fa) (hb : JE X G W e2 fb) (hg : Gl X "zip" := by rfl) (hs : starEach [e, e2] X.env = (false, eval e X.env) :: starEach [e2] X.env := by rfl) (hs2 : starEach [e2] X.env = (false, eval e2 X.env) :: starEach [] X.env := by rfl) (hpl : (backTo pos (starEach [e2] X.env)).any (·.1) = false := by rfl) :
    JI X G W (.Tuple elts kk tpos) (.Call (.Name "zip" p) [e, e2] [] pos) (diZip fa fb) :=
  PI.imp (pi_zipS hg hm (ja_cons ha (ja_cons hb ja_nil hs2) hs) hs hpl) fun σ H R ⟨m, ρ, S, sr, sm, eo⟩ => ⟨m, ρ, S, sr, sm, by
    unfold daCons daNil
    unfold diZip at eo
    cases z : fa ρ S with
    | bad => rw [z] at eo; exact eo.elim
    | exn x S1 => rw [z] at eo; exact eo
    | ok d S1 =>
      rw [z] at eo
      simp only [Out.bind_ok] at eo ⊢
      cases z2 : fb ρ S1 with
      | bad => rw [z2] at eo; exact eo.elim
      | exn x S1 => rw [z2] at eo; exact eo
      | ok d2 S2 =>
        rw [z2] at eo
        simp only [Out.bind_ok] at eo ⊢
        intro vs H1 m1 st1 sm1 r1
        have eo1 := eo.step st1
        obtain ⟨v, u, rfl, rv, ru⟩ := svs2 r1
        split at eo1
        · rename_i xs ys q1 q2
          obtain ⟨sd1, a, rfl, k1⟩ := side_of sm1 q1 rv
          obtain ⟨sd2, b, rfl, k2⟩ := side_of sm1 q2 ru
          obtain ⟨us, w1, _⟩ := k1 H1 m1 S2 sm1.refl sm1 (grdQ_here q1)
          obtain ⟨ws, w2, _⟩ := k2 H1 m1 S2 sm1.refl sm1 (grdQ_here q2)
          exact ⟨sd1, sd2, a, b, us, ws, rfl, w1, w2, eo1 _ H1 m1 sm1.refl sm1 (srcOk_zip k1 k2)⟩
        · exact eo1.elim⟩
end
end DL
set_option Elab.async false
set_option linter.all false
set_option maxRecDepth 100000
set_option maxHeartbeats 4000000
/-! DN7: xs.pop(), xs.pop(i), xs.extend(ys), xs[i] op= e. -/
namespace DL
open PySem PySem.Spec PyProof.Rows L2
/-- a method of a list with one argument: what it gives, the list behind it -/
def dLM1 (g : Store → List D → D → Option (D × List D)) (fo fe : DE) : DE := fun ρ S => (fo ρ S).bind fun o S1 => match o with
  | .obj n => (match lstAt S1 n with
    | some _ => (fe ρ S1).bind fun y S2 => (match lstAt S2 n with
      | some xs => (match g S2 xs y with
        | some (r, zs) => .ok r (S2.set n (.lst zs))
        | none => .bad)
      | none => .bad)
    | none => .bad)
  | _ => .bad
def dLM0 (g : List D → Option (D × List D)) (fo : DE) : DE := fun ρ S => (fo ρ S).bind fun o S1 => match o with
  | .obj n => (match lstAt S1 n with
    | some xs => (match g xs with
      | some (r, zs) => .ok r (S1.set n (.lst zs))
      | none => .bad)
    | none => .bad)
  | _ => .bad
def LM1 (X : Cx) (G : Gx) (g : Store → List D → D → Option (D × List D)) (rr : V → List V → Hp → VK → Prop) : Prop :=
  ∀ (m : List Addr) (S : Store) (H : Hp) (n : Nat) (a : Addr) (d r : D) (zs xs : List D) (ws : List V) (v : V) (Q : VK), Sim X.K G m S H → m[n]? = some a → H a = some (.lst ws) → SVs X.K m H xs ws → SV X.K m H d v → g S xs d = some (r, zs) →
    (∀ u H' m', Step m H m' H' → Sim X.K G m' (S.set n (.lst zs)) H' → SV X.K m' H' r u → Q u H') → rr (.ref a) [v] H Q
section
variable {X : Cx} {G : Gx} {W : WX} {o e : Expr} {fo fe : DE} {g : Store → List D → D → Option (D × List D)} {g0 : List D → Option (D × List D)} {rr : V → List V → Hp → VK → Prop} {name : Str} {id : String} {apos cpos : Pos}
theorem je_lm1 (pa : PlainAttrs "list") (slot : Slot "list" name id) (hty : typeOf (.builtin id) = pure (.type "method_descriptor")) (hm : MtR X id rr) (hL : LM1 X G g rr) (ho : JE X G W o fo) (he : JE X G W e fe) (hbase : attributeBase o name X.env (eval o X.env) = eval o X.env := by rfl)
    (hfew : ((backTo cpos (starEach [e] X.env)).all (fun x => !x.1) && (backToKw cpos (keywordEach [] X.env)).all (fun x => x.1.isSome) && decide ([e].length + ([] : List Keyword).length + (if ([] : List Keyword).isEmpty then 0 else 1) < 30)) = true := by rfl)
    (hline : (apos.endLine == cpos.line) = true := by rfl) (hs : starEach [e] X.env = (false, eval e X.env) :: starEach [] X.env := by rfl) (hplain : (backTo cpos (starEach [] X.env)).any (·.1) = false := by rfl) :
    JE X G W (.Call (.Attribute o name apos) [e] [] cpos) (dLM1 g fo fe) :=
  PE.imp (pe_bm pa slot hty hm ho (ja_cons he ja_nil hs) hbase hfew hline hs hplain) fun σ H Q ⟨m, ρ, S, sr, sm, eo⟩ => ⟨m, ρ, S, sr, sm, EO.then (rel := SV X.K) eo fun x S1 v H1 m1 st1 sm1 r1 eo1 => by
    cases x with
    | obj n =>
      dsimp only at eo1
      cases z : lstAt S1 n with
      | none => rw [z] at eo1; exact eo1.elim
      | some xs0 =>
        rw [z] at eo1
        dsimp only at eo1
        obtain ⟨a, rfl, hm⟩ := r1
        obtain ⟨a', ws0, h1, h2, h3⟩ := lstAt_ok sm1 z
        rw [hm] at h1; cases h1
        refine ⟨.inl ⟨rfl, ws0, SqL.of h2⟩, m1, ρ, S1, sr.mono sm st1, sm1, ?_⟩
        unfold daCons daNil
        cases z2 : fe ρ S1 with
        | bad => rw [z2] at eo1; exact eo1.elim
        | exn x S2 => rw [z2] at eo1; exact eo1
        | ok d S2 =>
          rw [z2] at eo1
          simp only [Out.bind_ok] at eo1 ⊢
          intro vs H2 m2 st2 sm2 r2
          have eo2 := eo1.step st2
          obtain ⟨y, rfl, ry⟩ := svs1 r2
          cases z3 : lstAt S2 n with
          | none => rw [z3] at eo2; exact eo2.elim
          | some xs =>
            rw [z3] at eo2
            dsimp only at eo2
            cases z4 : g S2 xs d with
            | none => rw [z4] at eo2; exact eo2.elim
            | some p =>
              obtain ⟨r, zs⟩ := p
              rw [z4] at eo2
              obtain ⟨a', ws, h1, h2, h3⟩ := lstAt_ok sm2 z3
              rw [st2.get hm] at h1; cases h1
              exact hL m2 S2 H2 n a d r zs xs ws y _ sm2 (st2.get hm) h2 h3 ry z4 fun u H' m' st sm' ru => eo2 u H' m' st sm' ru
    | _ => exact eo1.elim⟩
theorem je_lm0 (pa : PlainAttrs "list") (slot : Slot "list" name id) (hty : typeOf (.builtin id) = pure (.type "method_descriptor")) (hm : MtR X id rr)
    (hL : ∀ (m : List Addr) (S : Store) (H : Hp) (n : Nat) (a : Addr) (r : D) (zs xs : List D) (ws : List V) (Q : VK), Sim X.K G m S H → m[n]? = some a → H a = some (.lst ws) → SVs X.K m H xs ws → g0 xs = some (r, zs) →
      (∀ u H' m', Step m H m' H' → Sim X.K G m' (S.set n (.lst zs)) H' → SV X.K m' H' r u → Q u H') → rr (.ref a) [] H Q)
    (ho : JE X G W o fo) (hbase : attributeBase o name X.env (eval o X.env) = eval o X.env := by rfl) (hline : (apos.endLine == cpos.line) = true := by rfl) :
    JE X G W (.Call (.Attribute o name apos) [] [] cpos) (dLM0 g0 fo) :=
  PE.imp (pe_bm0 pa slot hty hm ho hbase hline) fun σ H Q ⟨m, ρ, S, sr, sm, eo⟩ => ⟨m, ρ, S, sr, sm, EO.then (rel := SV X.K) eo fun x S1 v H1 m1 st1 sm1 r1 eo1 => by
    cases x with
    | obj n =>
      dsimp only at eo1
      cases z : lstAt S1 n with
      | none => rw [z] at eo1; exact eo1.elim
      | some xs =>
        rw [z] at eo1
        dsimp only at eo1
        obtain ⟨a, rfl, hm⟩ := r1
        obtain ⟨a', ws, h1, h2, h3⟩ := lstAt_ok sm1 z
        rw [hm] at h1; cases h1
        refine ⟨.inl ⟨rfl, ws, SqL.of h2⟩, ?_⟩
        cases z4 : g0 xs with
        | none => rw [z4] at eo1; exact eo1.elim
        | some p =>
          obtain ⟨r, zs⟩ := p
          rw [z4] at eo1
          exact hL m1 S1 H1 n a r zs xs ws _ sm1 hm h2 h3 z4 fun u H' m' st sm' ru => eo1 u H' m' st sm' ru
    | _ => exact eo1.elim⟩
/-! ### pop, extend -/
def pop0D (xs : List D) : Option (D × List D) := match xs[xs.length - 1]? with
  | some y => some (y, xs.dropLast)
  | none => none
def pop1D (_ : Store) (xs : List D) (d : D) : Option (D × List D) := match d with
  | .int i => if -1000000000000 ≤ i ∧ i ≤ 1000000000000 then (match seqIndex? i xs.length with
    | some k => (match xs[k]? with
      | some y => some (y, xs.eraseIdx k)
      | none => none)
    | none => none) else none
  | _ => none
theorem SVs.dropLast {K : PySem.W.Frag} {m : List Addr} {H : Hp} {ds : List D} {vs : List V} (h : SVs K m H ds vs) : SVs K m H ds.dropLast vs.dropLast := by
  rw [List.dropLast_eq_take, List.dropLast_eq_take, ← h.len]
  exact h.take _
theorem SVs.erase {K : PySem.W.Frag} {m : List Addr} {H : Hp} {ds : List D} {vs : List V} (h : SVs K m H ds vs) (k : Nat) : SVs K m H (ds.eraseIdx k) (vs.eraseIdx k) := by
  rw [List.eraseIdx_eq_take_drop_succ, List.eraseIdx_eq_take_drop_succ]
  exact (h.take k).append (h.drop (k + 1))
theorem je_pop0 (ho : JE X G W o fo) (hbase : attributeBase o "pop" X.env (eval o X.env) = eval o X.env := by rfl) (hline : (apos.endLine == cpos.line) = true := by rfl) : JE X G W (.Call (.Attribute o "pop" apos) [] [] cpos) (dLM0 pop0D fo) :=
  je_lm0 PySem.F.plainAttrs_list PySem.F.slot_list_pop PySem.F.type_list_pop mt_pop (fun m S H n a r zs xs ws Q sm hm h2 h3 z k => by
    unfold pop0D at z
    split at z
    · rename_i y hy
      cases z
      obtain ⟨v, e1, e2⟩ := h3.get hy
      have st3 : Step m H m (upd H a (.lst ws.dropLast)) := Step.put sm hm
      exact ⟨a, ws, v, rfl, rfl, h2, by rw [← h3.len]; exact e1, k v _ m st3 (sm.put hm ⟨ws.dropLast, upd_same, h3.dropLast.mono sm st3⟩) (e2.mono sm st3)⟩
    · cases z) ho hbase hline
theorem je_pop1 (ho : JE X G W o fo) (he : JE X G W e fe) (hbase : attributeBase o "pop" X.env (eval o X.env) = eval o X.env := by rfl)
    (hfew : ((backTo cpos (starEach [e] X.env)).all (fun x => !x.1) && (backToKw cpos (keywordEach [] X.env)).all (fun x => x.1.isSome) && decide ([e].length + ([] : List Keyword).length + (if ([] : List Keyword).isEmpty then 0 else 1) < 30)) = true := by rfl)
    (hline : (apos.endLine == cpos.line) = true := by rfl) (hs : starEach [e] X.env = (false, eval e X.env) :: starEach [] X.env := by rfl) (hplain : (backTo cpos (starEach [] X.env)).any (·.1) = false := by rfl) :
    JE X G W (.Call (.Attribute o "pop" apos) [e] [] cpos) (dLM1 pop1D fo fe) :=
  je_lm1 PySem.F.plainAttrs_list PySem.F.slot_list_pop PySem.F.type_list_pop mt_popAt (fun m S H n a d r zs xs ws v Q sm hm h2 h3 hv z k => by
    unfold pop1D at z
    split at z
    · rename_i i
      cases hv
      split at z
      · rename_i hz
        split at z
        · rename_i kk hk
          split at z
          · rename_i y hy
            cases z
            obtain ⟨u, e1, e2⟩ := h3.get hy
            have st3 : Step m H m (upd H a (.lst (ws.eraseIdx kk))) := Step.put sm hm
            exact ⟨a, ws, i, kk, u, rfl, rfl, h2, by omega, by omega, by rw [← h3.len]; exact hk, e1, k u _ m st3 (sm.put hm ⟨_, upd_same, (h3.erase kk).mono sm st3⟩) (e2.mono sm st3)⟩
          · cases z
        · cases z
      · cases z
    · cases z) ho he hbase hfew hline hs hplain
theorem list_extend_tup (l : Addr) (items : Array Value) (n : Nat) (b : Addr) (items2 : Array Value) (n2 : Nat) (dd : Option Addr) (sl : Array (Option Value)) (hs0 : ¬(!items.isEmpty && Builtin.List.listTooLong (items.size + items2.size)) = true) (hs1 : items.size ≤ sizeLine) (hs2 : items.size + items2.size ≤ sizeLine + 1) :
    Meets (Builtin.«list.extend» ⟨[.ref l, .ref b], []⟩) (fun _ R s => s.heap.get? l = some { cls := .type "list", dict := none, data := .seq items n, slots := #[] } ∧ s.heap.get? b = some { cls := .type "tuple", dict := dd, data := .seq items2 n2, slots := sl } ∧ R (.ok (.ret Value.none)) { s with heap := s.heap.update l (Obj.mapSeq fun x => x ++ items2), toks := s.toks }) :=
  .of_wp fun prog w A R s h => by
    obtain ⟨hp, g, d, tk, os⟩ := s
    obtain ⟨hl, hb, h⟩ := h
    have f1 := AutoSeq1.idx_int
    have f2 := AutoSeq1.sub_tuple_tuple
    have f3 := AutoSeq1.sub_list_list
    have f4 := AutoSeq1.sub_tuple_list
    have f5 := AutoSeq1.sub_list_tuple
    have hz' : (items ++ items2).size ≤ sizeLine + 1 := by rw [Array.size_append]; exact hs2
    wp_walk using (wpAny_updateSeq hl rfl (hz := hs1) (_hz' := hz')), wpAny_loadPart' hl, wpAny_loadPart' hb
    exact ⟨_, rfl, h⟩
def rExtA (K : PySem.W.Frag) : V → List V → Hp → VK → Prop := fun x vs H Q => ∃ l b xs zs, x = .ref l ∧ vs = [.ref b] ∧ H l = some (.lst xs) ∧ (H b = some (.lst zs) ∨ SqT K H b zs) ∧ xs.length + zs.length ≤ sizeLine ∧ Q .non (upd H l (.lst (xs ++ zs)))
theorem mt_extA : MtM X "list.extend" (rExtA X.K) := by
  intro pins s σ H x vs v us Q I rx rv h
  obtain ⟨l, b, xs, zs, rfl, rfl, hH, hB, hz, q⟩ := h
  rcases hB with hB | hB
  · exact mt_extend pins s σ H _ _ v us Q I rx rv ⟨l, b, xs, zs, rfl, rfl, hH, hB, hz, q⟩
  · cases rx
    obtain ⟨u, rfl, ru⟩ := rv.one
    cases ru
    obtain ⟨z, its, n, r, hl, e⟩ := I.lstM hH
    obtain ⟨its2, r2, ⟨⟨cls, dd, data, sl⟩, e2, hc, n2, hd⟩, hs⟩ := I.tuple hB
    simp only at hc hd
    subst hc hd
    have hl2 : zs.length = its2.length := r2.length
    have hsz : its.toArray.size + its2.toArray.size ≤ sizeLine := by rw [List.size_toArray, List.size_toArray]; omega
    have hlong : ¬ (!its.toArray.isEmpty && Builtin.List.listTooLong (its.toArray.size + its2.toArray.size)) = true := by
      rw [notLongL hsz, Bool.and_false]
      exact Bool.false_ne_true
    refine call_meets F.slot_list_extend ⟨_, e, rfl⟩ F.entry_list_extend (F.args_list_extend_2 _ _)
      (list_extend_tup l its.toArray n b its2.toArray n2 dd sl hlong (by rw [List.size_toArray]; omega) (by omega)) ⟨e, e2, ?_⟩
    refine ⟨.non, _, I.lset (its' := its ++ its2) hH e (by simp) (r.append r2) ?_, rfl, q⟩
    rw [List.length_append]
    omega
def extD (S : Store) (xs : List D) (d : D) : Option (D × List D) := match d with
  | .tup ys => if xs.length + ys.length ≤ 1000000 then some (.non, xs ++ ys) else none
  | .obj n => (match lstAt S n with
    | some ys => if xs.length + ys.length ≤ 1000000 then some (.non, xs ++ ys) else none
    | none => none)
  | _ => none
theorem je_ext (ho : JE X G W o fo) (he : JE X G W e fe) (hbase : attributeBase o "extend" X.env (eval o X.env) = eval o X.env := by rfl)
    (hfew : ((backTo cpos (starEach [e] X.env)).all (fun x => !x.1) && (backToKw cpos (keywordEach [] X.env)).all (fun x => x.1.isSome) && decide ([e].length + ([] : List Keyword).length + (if ([] : List Keyword).isEmpty then 0 else 1) < 30)) = true := by rfl)
    (hline : (apos.endLine == cpos.line) = true := by rfl) (hs : starEach [e] X.env = (false, eval e X.env) :: starEach [] X.env := by rfl) (hplain : (backTo cpos (starEach [] X.env)).any (·.1) = false := by rfl) :
    JE X G W (.Call (.Attribute o "extend" apos) [e] [] cpos) (dLM1 extD fo fe) :=
  je_lm1 PySem.F.plainAttrs_list PySem.F.slot_list_extend PySem.F.type_list_extend mt_extA (fun m S H n a d r zs xs ws v Q sm hm h2 h3 hv z k => by
    unfold extD at z
    split at z
    · rename_i ys
      split at z
      · rename_i hz
        cases z
        obtain ⟨p, us, rfl, q, ru⟩ := hv
        have l1 := h3.len
        have l2 := ru.len
        have st3 : Step m H m (upd H a (.lst (ws ++ us))) := Step.put sm hm
        exact ⟨a, p, ws, us, rfl, rfl, h2, .inr q, by rw [← l1, ← l2]; exact size6 hz, k _ _ m st3 (sm.put hm ⟨_, upd_same, (h3.append ru).mono sm st3⟩) rfl⟩
      · cases z
    · rename_i n2
      split at z
      · rename_i ys e1
        split at z
        · rename_i hz
          cases z
          obtain ⟨p, rfl, hmp⟩ := hv
          obtain ⟨a', us, g1, g2, ru⟩ := lstAt_ok sm e1
          rw [hmp] at g1; cases g1
          have l1 := h3.len
          have l2 := ru.len
          have st3 : Step m H m (upd H a (.lst (ws ++ us))) := Step.put sm hm
          exact ⟨a, p, ws, us, rfl, rfl, h2, .inl g2, by rw [← l1, ← l2]; exact size6 hz, k _ _ m st3 (sm.put hm ⟨_, upd_same, (h3.append ru).mono sm st3⟩) rfl⟩
        · cases z
      · cases z
    · cases z) ho he hbase hfew hline hs hplain
end
end DL
set_option Elab.async false
set_option linter.all false
set_option maxRecDepth 100000
set_option maxHeartbeats 4000000
/-! DN8: xs[i] op= e. -/
namespace DL
open PySem PySem.Spec PyProof.Rows L2
section
variable {X : Cx} {G : Gx} {W : WX} {o i e : Expr} {fo fi fe : DE} {g : D2} {op : Operator} {tpos pos : Pos}
theorem get_listN : PGet X (fun o i H Q => ∃ a xs k v, o = .ref a ∧ i = .int k ∧ SqL X.K H a xs ∧ atI xs k = some v ∧ Q v H) := by
  intro pins s σ H x y v u Q I rx ry h
  obtain ⟨p, xs, i, z, rfl, rfl, hq, he, q⟩ := h
  cases rx
  obtain ⟨t, rfl⟩ := ry
  obtain ⟨its, r, pl, hz⟩ := I.list hq
  obtain ⟨j, h1, h2, h3, h4, h5⟩ := atI_get he
  obtain ⟨w, ew, rw'⟩ := r.get h2
  have hl := r.length
  have hn := line63
  have fin : EP X pins σ Q w s := ⟨z, H, I, rw', q⟩
  by_cases h0 : 0 ≤ i
  · have hj : i.toNat = j := by
      rw [seqIndex_of h0 h5] at h1
      exact Option.some.inj h1
    exact wpAny_getItem_list pl.isList h0 (by omega) (by rw [hj]; simpa using ew) fin
  · have hj : (i + (its.toArray.size : Int)).toNat = j := by
      rw [seqIndex_neg (by omega) h4] at h1
      rw [List.size_toArray, ← hl]
      exact Option.some.inj h1
    exact wpAny_getItem_list_neg pl.isList (by omega) (by rw [List.size_toArray] <;> omega) (by omega) (by rw [hj]; simpa using ew) fin
def dAugS (fo fi : DE) (g : D2) (fe : DE) : DS := fun ρ S => liftS (fo ρ S) ρ fun o S1 => liftS (fi ρ S1) ρ fun i S2 => match o, i with
  | .obj n, .int k => (match lstAt S2 n with
    | some xs => (match atI xs k with
      | some x => liftS (fe ρ S2) ρ fun y S3 => (match g x y S3 with
        | some (d, S4) => (match lstAt S4 n with
          | some ys => (match ixN ys.length k with
            | some j => .nx ρ (S4.set n (.lst (ys.set j d)))
            | none => .bad)
          | none => .bad)
        | none => .bad)
      | none => .bad)
    | none => .bad)
  | _, _ => .bad
theorem js_augS (ho : JOp X G (inplaceOp op) g) (hO : JE X G W o fo) (hI : JE X G W i fi) (he : JE X G W e fe)
    (ha : ∀ ov iv new, augStore i ov iv new = (do holding [new, ov, iv] (setItem ov iv new); release [new, ov, iv] []; pure .next) := by intros; rfl) : JS X G W (.AugAssign (.Subscript o i tpos) op e pos) (dAugS fo fi g fe) :=
  PS.imp (ps_augS hO hI get_listN he ho set_list ha) fun E σ H ⟨m, ρ, S, sr, sm, q⟩ => ⟨m, ρ, S, sr, sm, SQ.then (rel := SV X.K) q sr sm fun x S1 u H1 m1 st1 sm1 r1 q1 => ⟨m1, ρ, S1, sr.mono sm st1, sm1, SQ.then (rel := SV X.K) q1 (sr.mono sm st1) sm1 fun y S2 w H2 m2 st2 sm2 r2 q2 => by
    have sr2 := (sr.mono sm st1).mono sm1 st2
    split at q2
    · rename_i n k
      split at q2
      · rename_i xs e1
        split at q2
        · rename_i x e2
          have r1' := r1.mono sm1 st2
          obtain ⟨a, rfl, hm⟩ := r1'
          cases r2
          obtain ⟨a', vs, h1, h2, h3⟩ := lstAt_ok sm2 e1
          rw [hm] at h1; cases h1
          obtain ⟨xv, h4, h5⟩ := atI_svs h3 e2
          refine ⟨a, vs, k, xv, rfl, rfl, SqL.of h2, h4, m2, ρ, S2, sr2, sm2, SQ.then (rel := SV X.K) q2 sr2 sm2 fun y S3 yv H3 m3 st3 sm3 r3 q3 => ?_⟩
          split at q3
          · rename_i d S4 e3
            refine ⟨m3, S3, x, y, d, S4, sm3, h5.mono sm2 st3, r3, e3, fun dv H4 m4 st4 sm4 r4 => ?_⟩
            have q4 := SQ.step q3 st4
            split at q4
            · rename_i ys e4
              split at q4
              · rename_i j e5
                obtain ⟨a', us, g1, g2, g3⟩ := lstAt_ok sm4 e4
                have hm4 := st4.get (st3.get hm)
                rw [hm4] at g1; cases g1
                have st5 : Step m4 H4 m4 (upd H4 a (.lst (us.set j dv))) := Step.put sm4 hm4
                exact ⟨a, us, k, j, rfl, rfl, g2, by rw [← g3.len]; exact e5, q4 σ _ m4 st5 (sm4.put hm4 ⟨_, upd_same, (g3.set r4 j).mono sm4 st5⟩) ((sr2.mono sm2 (st3.trans st4)).mono sm4 st5)⟩
              · exact q4.elim
            · exact q4.elim
          · exact q3.elim
        · exact q2.elim
      · exact q2.elim
    · exact q2.elim⟩⟩
end
end DL
set_option Elab.async false
set_option linter.all false
set_option maxRecDepth 100000
set_option maxHeartbeats 4000000
/-! DN9: sum, max, min of a tuple of numbers. -/
namespace DL
open PySem PySem.Spec PyProof.Rows L2
section
variable {X : Cx} {G : Gx}
theorem at_ints {ns : List Int} {its : List Value} (rv : Vals (ns.map V.int) its) {i : Nat} {v : Value} (h : its.toArray[i]? = some v) : i < ns.length ∧ ∃ t, v = .int ((ns[i]?).getD 0) t := by
  have h1 : its[i]? = some v := by simpa using h
  have hl := rv.length
  have hi : i < its.length := (List.getElem?_eq_some_iff.mp h1).1
  have hin : i < ns.length := by rw [List.length_map] at hl; omega
  obtain ⟨u, e1, e2⟩ := rv.get (i := i) (x := .int ns[i]) (by simp [hin])
  rw [h1] at e1
  cases e1
  obtain ⟨t, e2⟩ := e2
  exact ⟨hin, t, by rw [e2, List.getElem?_eq_getElem hin]; rfl⟩
theorem iter_tupS {A : Around} {E : Value → Shared → Prop} {s : Shared} {a : Addr} {items : Array Value} {Q : Value → Shared → Prop} {prog : Program} {w : World} (ht : s.heap.IsTuple a items)
    (h : ∀ o, (s.heap.push o).objs.size = s.heap.objs.size + 1 → ((s.heap.push o).IsTupleIter s.heap.objs.size a 0 ∧ (s.heap.push o).IsTuple a items) → (∀ b ∈ [s.heap.objs.size, a], b < (s.heap.push o).objs.size) → a ≠ s.heap.objs.size → Q (.ref s.heap.objs.size) { s with heap := s.heap.push o }) : wpAny (model prog w) A (pyIter (.ref a)) Q E s := by
  refine wpAny_pyIter_tuple ht ?_
  have hlt : a < s.heap.objs.size := by obtain ⟨o, e, _⟩ := ht; exact Heap.lt_size e
  refine h _ (Heap.size_push ..) ⟨⟨_, Heap.get?_push_size _ rfl, rfl, rfl⟩, ht.push _⟩ (fun b hb => ?_) (Nat.ne_of_lt hlt)
  rw [Heap.size_push]
  rcases List.mem_cons.mp hb with z | z
  · rw [z]; exact Nat.lt_succ_self _
  · rw [List.mem_singleton.mp z]; exact Nat.lt_succ_of_lt hlt
theorem kept_it {s : Shared} {o : Obj} {h' : Heap} (hk : ∀ b ob, b ∉ [s.heap.objs.size] → (s.heap.push o).get? b = some ob → h'.get? b = some ob) : ∀ b ob, s.heap.get? b = some ob → h'.get? b = some ob := fun b ob e =>
  hk b ob (fun z => by
    have := Heap.lt_size e
    rw [List.mem_singleton.mp z] at this
    exact absurd this (Nat.lt_irrefl _)) (Heap.get?_push_of_some _ e)
theorem cr_sumT (hc : X.calm = true) : CallR X (.builtin "sum") (fun vs H Q => ∃ (a : Addr) (ns : List Int), vs = [V.ref a] ∧ SqT X.K H a (ns.map V.int) ∧ Q (.int ns.sum) H) := by
  intro pins s σ H vs us Q I r h
  obtain ⟨a, ns, rfl, hs, q⟩ := h
  obtain ⟨its, rv, p, _⟩ := I.tuple hs
  have hl := rv.length
  rw [Vals.ref1 r]
  have hh : X.A.in1.handled = none := I.ok.hd hc
  refine call_sum_walkG (iter_tupS (show s.heap.IsTuple a its.toArray from p) fun o hz st hfp hne => ?_)
  refine ⟨_, _, _, _, _, _, (fun j => (ns[j]?).getD 0), rfl, Walks.tuple (prog := X.prog) (w := X.w) hh _ a hne its.toArray, st, hfp, (fun i v hv => (at_ints rv hv).2), fun h' tk t' hk => ?_⟩
  refine ⟨.int _, H, I.kept (t' := tk) (kept_it hk), ⟨t', rfl⟩, ?_⟩
  rw [show its.toArray.size = ns.length by rw [List.size_toArray, ← hl, List.length_map], preSum_list]
  exact q
theorem cr_maxT (hc : X.calm = true) : CallR X (.builtin "max") (fun vs H Q => ∃ (a : Addr) (ns : List Int), vs = [V.ref a] ∧ SqT X.K H a (ns.map V.int) ∧ 0 < ns.length ∧ ∀ m, m ∈ ns → (∀ y, y ∈ ns → y ≤ m) → Q (.int m) H) := by
  intro pins s σ H vs us Q I r h
  obtain ⟨a, ns, rfl, hs, hpos, q⟩ := h
  obtain ⟨its, rv, p, _⟩ := I.tuple hs
  have hl := rv.length
  have hsz : its.toArray.size = ns.length := by rw [List.size_toArray, ← hl, List.length_map]
  rw [Vals.ref1 r]
  have hh : X.A.in1.handled = none := I.ok.hd hc
  refine call_max_walk (iter_tupS (show s.heap.IsTuple a its.toArray from p) fun o hz st hfp hne => ?_)
  refine ⟨_, _, _, _, _, _, _, rfl, Walks.tuple (prog := X.prog) (w := X.w) hh _ a hne its.toArray, st, hfp, by omega, CmpOf.ints_gt (fun j => (ns[j]?).getD 0) (fun i v hv => (at_ints rv hv).2), fun v h' tk hP hk => ?_⟩
  obtain ⟨hi, t, rfl⟩ := at_ints rv hP
  refine ⟨.int _, H, I.kept (t' := tk) (kept_it hk), ⟨t, rfl⟩, q _ ?_ fun y hy => ?_⟩
  · rw [List.getElem?_eq_getElem hi]; exact List.getElem_mem hi
  · obtain ⟨j, hj, rfl⟩ := List.getElem_of_mem hy
    have := (argBest_gt (fun j => (ns[j]?).getD 0) (its.toArray.size - 1)).2 j (by omega)
    rw [List.getElem?_eq_getElem hj] at this
    exact this
theorem cr_minT (hc : X.calm = true) : CallR X (.builtin "min") (fun vs H Q => ∃ (a : Addr) (ns : List Int), vs = [V.ref a] ∧ SqT X.K H a (ns.map V.int) ∧ 0 < ns.length ∧ ∀ m, m ∈ ns → (∀ y, y ∈ ns → m ≤ y) → Q (.int m) H) := by
  intro pins s σ H vs us Q I r h
  obtain ⟨a, ns, rfl, hs, hpos, q⟩ := h
  obtain ⟨its, rv, p, _⟩ := I.tuple hs
  have hl := rv.length
  have hsz : its.toArray.size = ns.length := by rw [List.size_toArray, ← hl, List.length_map]
  rw [Vals.ref1 r]
  have hh : X.A.in1.handled = none := I.ok.hd hc
  refine call_min_walk (iter_tupS (show s.heap.IsTuple a its.toArray from p) fun o hz st hfp hne => ?_)
  refine ⟨_, _, _, _, _, _, _, rfl, Walks.tuple (prog := X.prog) (w := X.w) hh _ a hne its.toArray, st, hfp, by omega, CmpOf.ints_lt (fun j => (ns[j]?).getD 0) (fun i v hv => (at_ints rv hv).2), fun v h' tk hP hk => ?_⟩
  obtain ⟨hi, t, rfl⟩ := at_ints rv hP
  refine ⟨.int _, H, I.kept (t' := tk) (kept_it hk), ⟨t, rfl⟩, q _ ?_ fun y hy => ?_⟩
  · rw [List.getElem?_eq_getElem hi]; exact List.getElem_mem hi
  · obtain ⟨j, hj, rfl⟩ := List.getElem_of_mem hy
    have := (argBest_lt (fun j => (ns[j]?).getD 0) (its.toArray.size - 1)).2 j (by omega)
    rw [List.getElem?_eq_getElem hj] at this
    exact this
def sumLT : DB := fun ds S => match ds with
  | [.tup xs] => (intsOf xs).map fun ns => (.int ns.sum, S)
  | ds => sumLD ds S
def maxT : DB := fun ds S => match ds with
  | [.tup xs] => ((intsOf xs).bind maxI).map fun i => (.int i, S)
  | ds => maxD2 ds S
def minT : DB := fun ds S => match ds with
  | [.tup xs] => ((intsOf xs).bind minI).map fun i => (.int i, S)
  | ds => minD3 ds S
theorem max_unique {i mx : Int} {is : List Int} (h1 : mx ∈ i :: is) (h2 : ∀ y, y ∈ i :: is → y ≤ mx) : mx = is.foldl max i := by
  have q1 := foldl_max_le is i
  have q2 := foldl_max_mem is i
  have a1 : mx ≤ is.foldl max i := by
    rcases List.mem_cons.mp h1 with rfl | h1
    · exact q1.1
    · exact q1.2 _ h1
  have a2 : is.foldl max i ≤ mx := by
    rcases q2 with q2 | q2
    · rw [q2]; exact h2 _ List.mem_cons_self
    · exact h2 _ (List.mem_cons_of_mem _ q2)
  omega
theorem min_unique {i mx : Int} {is : List Int} (h1 : mx ∈ i :: is) (h2 : ∀ y, y ∈ i :: is → mx ≤ y) : mx = is.foldl min i := by
  have q1 := foldl_min_le is i
  have q2 := foldl_min_mem is i
  have a1 : is.foldl min i ≤ mx := by
    rcases List.mem_cons.mp h1 with rfl | h1
    · exact q1.1
    · exact q1.2 _ h1
  have a2 : mx ≤ is.foldl min i := by
    rcases q2 with q2 | q2
    · rw [q2]; exact h2 _ List.mem_cons_self
    · exact h2 _ (List.mem_cons_of_mem _ q2)
  omega
theorem jb_sumT (hc : X.calm = true) : CallR X (.builtin "sum") (BR X.K G sumLT) := CallR.imp (CallR.or (cr_sumT hc) (jb_sum (G := G) hc)) fun vs H Q ⟨m, S, ds, d, S', sm, r, e, k⟩ => by
  unfold sumLT at e
  split at e
  · rename_i xs
    obtain ⟨v, rfl, q⟩ := svs1 r
    cases z2 : intsOf xs with
    | none => rw [z2] at e; cases e
    | some ns =>
      rw [z2] at e
      cases e
      obtain ⟨p, vs, rfl, sq, sv⟩ := q
      rw [intsOf_ok z2 sv] at sq
      exact .inl ⟨p, ns, rfl, sq, k _ H m sm.refl sm rfl⟩
  · exact .inr ⟨m, S, _, d, S', sm, r, e, k⟩
theorem jb_maxT (hc : X.calm = true) : CallR X (.builtin "max") (BR X.K G maxT) := CallR.imp (CallR.or (cr_maxT hc) (jb_max2 (G := G) hc)) fun vs H Q ⟨m, S, ds, d, S', sm, r, e, k⟩ => by
  unfold maxT at e
  split at e
  · rename_i xs
    obtain ⟨v, rfl, q⟩ := svs1 r
    cases z2 : intsOf xs with
    | none => rw [z2] at e; cases e
    | some ns =>
      rw [z2] at e
      cases ns with
      | nil => cases e
      | cons i is =>
        cases e
        obtain ⟨p, vs, rfl, sq, sv⟩ := q
        rw [intsOf_ok z2 sv] at sq
        refine .inl ⟨p, i :: is, rfl, sq, by simp, fun mx h1 h2 => ?_⟩
        rw [max_unique h1 h2]
        exact k _ H m sm.refl sm rfl
  · exact .inr ⟨m, S, _, d, S', sm, r, e, k⟩
theorem jb_minT (hc : X.calm = true) (hu : X.A.units + 64 < cLine) : CallR X (.builtin "min") (BR X.K G minT) := CallR.imp (CallR.or (cr_minT hc) (jb_min3 (G := G) hc hu)) fun vs H Q ⟨m, S, ds, d, S', sm, r, e, k⟩ => by
  unfold minT at e
  split at e
  · rename_i xs
    obtain ⟨v, rfl, q⟩ := svs1 r
    cases z2 : intsOf xs with
    | none => rw [z2] at e; cases e
    | some ns =>
      rw [z2] at e
      cases ns with
      | nil => cases e
      | cons i is =>
        cases e
        obtain ⟨p, vs, rfl, sq, sv⟩ := q
        rw [intsOf_ok z2 sv] at sq
        refine .inl ⟨p, i :: is, rfl, sq, by simp, fun mx h1 h2 => ?_⟩
        rw [min_unique h1 h2]
        exact k _ H m sm.refl sm rfl
  · exact .inr ⟨m, S, _, d, S', sm, r, e, k⟩
end
end DL
set_option Elab.async false
set_option linter.all false
set_option maxRecDepth 100000
set_option maxHeartbeats 0
namespace Pr
open PySem PySem.Spec PyProof.Rows L2 DL
def top (i : Nat) : Stmt := PySem.Challenge.pw_wagehall_k11_stock_and_wear.main.body.getD i (.Pass ⟨0, 0, 0, 0⟩)
abbrev s_part : Stmt := top 12
abbrev s_times : Stmt := top 13
abbrev s_order : Stmt := top 14
abbrev s_rounded : Stmt := top 15
abbrev s_Stock___init__ : Stmt := inClass (top 17) 0
abbrev s_Stock_come : Stmt := inClass (top 17) 1
abbrev s_Stock_go : Stmt := inClass (top 17) 2
abbrev s_Stock_there : Stmt := inClass (top 17) 3
abbrev s_Stock_worth : Stmt := inClass (top 17) 4
abbrev s_Stock_come_back : Stmt := inClass (top 17) 5
abbrev s_Stock_look : Stmt := inClass (top 17) 6
abbrev s_Stock_lowered : Stmt := inClass (top 17) 7
abbrev s_by_hand : Stmt := top 18
abbrev s_when_to_ask : Stmt := top 19
abbrev s_how_many : Stmt := top 20
abbrev s_look_asked : Stmt := top 21
abbrev s_check_thing : Stmt := top 23
abbrev s_even : Stmt := top 24
abbrev s_falling : Stmt := top 25
abbrev s_switched : Stmt := top 26
abbrev s_by_digits : Stmt := top 27
abbrev s_by_use : Stmt := top 28
abbrev s_left_after : Stmt := top 29
abbrev s_sold : Stmt := top 30
abbrev s_with_parts : Stmt := top 31
abbrev s_within_year : Stmt := top 32
abbrev s_when_worn : Stmt := top 33
abbrev s_tested : Stmt := top 34
abbrev s_cheaper : Stmt := top 35
abbrev s_is_slower : Stmt := top 36
abbrev s_mean_wear : Stmt := top 37
abbrev s_near : Stmt := top 38
abbrev s__law_dice : Stmt := top 40
abbrev s__law_roll : Stmt := top 41
abbrev s__law_rounds : Stmt := top 42
abbrev s__law_told : Stmt := top 43
abbrev s__law_cut : Stmt := top 44
abbrev s__law_stock : Stmt := top 45
abbrev s__law_asked : Stmt := top 46
abbrev s__law_more : Stmt := top 47
abbrev s_law : Stmt := top 48
def d_part : He.DefD := ⟨("part", none), "part", "part", defArgs s_part, defBody s_part, defScope s_part, [], []⟩
def d_times : He.DefD := ⟨("times", none), "times", "times", defArgs s_times, defBody s_times, defScope s_times, [], []⟩
def d_order : He.DefD := ⟨("order", none), "order", "order", defArgs s_order, defBody s_order, defScope s_order, [], []⟩
def d_rounded : He.DefD := ⟨("rounded", none), "rounded", "rounded", defArgs s_rounded, defBody s_rounded, defScope s_rounded, [], []⟩
def d_Stock___init__ : He.DefD := ⟨("Stock", some "__init__"), "__init__", "Stock.__init__", defArgs s_Stock___init__, defBody s_Stock___init__, defScope s_Stock___init__, [], []⟩
def d_Stock_come : He.DefD := ⟨("Stock", some "come"), "come", "Stock.come", defArgs s_Stock_come, defBody s_Stock_come, defScope s_Stock_come, [], []⟩
def d_Stock_go : He.DefD := ⟨("Stock", some "go"), "go", "Stock.go", defArgs s_Stock_go, defBody s_Stock_go, defScope s_Stock_go, [], []⟩
def d_Stock_there : He.DefD := ⟨("Stock", some "there"), "there", "Stock.there", defArgs s_Stock_there, defBody s_Stock_there, defScope s_Stock_there, [], []⟩
def d_Stock_worth : He.DefD := ⟨("Stock", some "worth"), "worth", "Stock.worth", defArgs s_Stock_worth, defBody s_Stock_worth, defScope s_Stock_worth, [], []⟩
def d_Stock_come_back : He.DefD := ⟨("Stock", some "come_back"), "come_back", "Stock.come_back", defArgs s_Stock_come_back, defBody s_Stock_come_back, defScope s_Stock_come_back, [], []⟩
def d_Stock_look : He.DefD := ⟨("Stock", some "look"), "look", "Stock.look", defArgs s_Stock_look, defBody s_Stock_look, defScope s_Stock_look, [], []⟩
def d_Stock_lowered : He.DefD := ⟨("Stock", some "lowered"), "lowered", "Stock.lowered", defArgs s_Stock_lowered, defBody s_Stock_lowered, defScope s_Stock_lowered, [], []⟩
def d_by_hand : He.DefD := ⟨("by_hand", none), "by_hand", "by_hand", defArgs s_by_hand, defBody s_by_hand, defScope s_by_hand, [], []⟩
def d_when_to_ask : He.DefD := ⟨("when_to_ask", none), "when_to_ask", "when_to_ask", defArgs s_when_to_ask, defBody s_when_to_ask, defScope s_when_to_ask, [], []⟩
def d_how_many : He.DefD := ⟨("how_many", none), "how_many", "how_many", defArgs s_how_many, defBody s_how_many, defScope s_how_many, [], []⟩
def d_look_asked : He.DefD := ⟨("look_asked", none), "look_asked", "look_asked", defArgs s_look_asked, defBody s_look_asked, defScope s_look_asked, [], []⟩
def d_check_thing : He.DefD := ⟨("check_thing", none), "check_thing", "check_thing", defArgs s_check_thing, defBody s_check_thing, defScope s_check_thing, [], []⟩
def d_even : He.DefD := ⟨("even", none), "even", "even", defArgs s_even, defBody s_even, defScope s_even, [], []⟩
def d_falling : He.DefD := ⟨("falling", none), "falling", "falling", defArgs s_falling, defBody s_falling, defScope s_falling, [], []⟩
def d_switched : He.DefD := ⟨("switched", none), "switched", "switched", defArgs s_switched, defBody s_switched, defScope s_switched, [], []⟩
def d_by_digits : He.DefD := ⟨("by_digits", none), "by_digits", "by_digits", defArgs s_by_digits, defBody s_by_digits, defScope s_by_digits, [], []⟩
def d_by_use : He.DefD := ⟨("by_use", none), "by_use", "by_use", defArgs s_by_use, defBody s_by_use, defScope s_by_use, [], []⟩
def d_left_after : He.DefD := ⟨("left_after", none), "left_after", "left_after", defArgs s_left_after, defBody s_left_after, defScope s_left_after, [], []⟩
def d_sold : He.DefD := ⟨("sold", none), "sold", "sold", defArgs s_sold, defBody s_sold, defScope s_sold, [], []⟩
def d_with_parts : He.DefD := ⟨("with_parts", none), "with_parts", "with_parts", defArgs s_with_parts, defBody s_with_parts, defScope s_with_parts, [], []⟩
def d_within_year : He.DefD := ⟨("within_year", none), "within_year", "within_year", defArgs s_within_year, defBody s_within_year, defScope s_within_year, [], []⟩
def d_when_worn : He.DefD := ⟨("when_worn", none), "when_worn", "when_worn", defArgs s_when_worn, defBody s_when_worn, defScope s_when_worn, [], []⟩
def d_tested : He.DefD := ⟨("tested", none), "tested", "tested", defArgs s_tested, defBody s_tested, defScope s_tested, [], []⟩
def d_cheaper : He.DefD := ⟨("cheaper", none), "cheaper", "cheaper", defArgs s_cheaper, defBody s_cheaper, defScope s_cheaper, [], []⟩
def d_is_slower : He.DefD := ⟨("is_slower", none), "is_slower", "is_slower", defArgs s_is_slower, defBody s_is_slower, defScope s_is_slower, [], []⟩
def d_mean_wear : He.DefD := ⟨("mean_wear", none), "mean_wear", "mean_wear", defArgs s_mean_wear, defBody s_mean_wear, defScope s_mean_wear, [], []⟩
def d_near : He.DefD := ⟨("near", none), "near", "near", defArgs s_near, defBody s_near, defScope s_near, [], []⟩
def d__law_dice : He.DefD := ⟨("_law_dice", none), "_law_dice", "_law_dice", defArgs s__law_dice, defBody s__law_dice, defScope s__law_dice, [], []⟩
def d__law_roll : He.DefD := ⟨("_law_roll", none), "_law_roll", "_law_roll", defArgs s__law_roll, defBody s__law_roll, defScope s__law_roll, [], []⟩
def d__law_rounds : He.DefD := ⟨("_law_rounds", none), "_law_rounds", "_law_rounds", defArgs s__law_rounds, defBody s__law_rounds, defScope s__law_rounds, [], []⟩
def d__law_told : He.DefD := ⟨("_law_told", none), "_law_told", "_law_told", defArgs s__law_told, defBody s__law_told, defScope s__law_told, [], []⟩
def d__law_cut : He.DefD := ⟨("_law_cut", none), "_law_cut", "_law_cut", defArgs s__law_cut, defBody s__law_cut, defScope s__law_cut, [], []⟩
def d__law_stock : He.DefD := ⟨("_law_stock", none), "_law_stock", "_law_stock", defArgs s__law_stock, defBody s__law_stock, defScope s__law_stock, [], []⟩
def d__law_asked : He.DefD := ⟨("_law_asked", none), "_law_asked", "_law_asked", defArgs s__law_asked, defBody s__law_asked, defScope s__law_asked, [], []⟩
def d__law_more : He.DefD := ⟨("_law_more", none), "_law_more", "_law_more", defArgs s__law_more, defBody s__law_more, defScope s__law_more, [], []⟩
def d_law : He.DefD := ⟨("law", none), "law", "law", defArgs s_law, defBody s_law, defScope s_law, [], []⟩
def fn : List He.DefD := [d_part, d_times, d_order, d_rounded, d_Stock___init__, d_Stock_come, d_Stock_go, d_Stock_there, d_Stock_worth, d_Stock_come_back, d_Stock_look, d_Stock_lowered, d_by_hand, d_when_to_ask, d_how_many, d_look_asked, d_check_thing, d_even, d_falling, d_switched, d_by_digits, d_by_use, d_left_after, d_sold, d_with_parts, d_within_year, d_when_worn, d_tested, d_cheaper, d_is_slower, d_mean_wear, d_near, d__law_dice, d__law_roll, d__law_rounds, d__law_told, d__law_cut, d__law_stock, d__law_asked, d__law_more, d_law]
def fa0 : List He.Fa := [.glo "WageFault", .glo "BadMoney", .glo "BadDay", .glo "BadRule", .glo "Unbalanced", .glo "Shut", .glo "Short", .glo "BadText", .glo "NoAnswer", .glo "part", .glo "times", .glo "order", .glo "rounded", .glo "Stock", .glo "by_hand", .glo "when_to_ask", .glo "how_many", .glo "look_asked", .glo "check_thing", .glo "even", .glo "falling", .glo "switched", .glo "by_digits", .glo "by_use", .glo "left_after", .glo "sold", .glo "with_parts", .glo "within_year", .glo "when_worn", .glo "tested"]
def fa1 : List He.Fa := [.glo "cheaper", .glo "is_slower", .glo "mean_wear", .glo "near", .glo "_law_dice", .glo "_law_roll", .glo "_law_rounds", .glo "_law_told", .glo "_law_cut", .glo "_law_stock", .glo "_law_asked", .glo "_law_more", .glo "law", .glo "RULES", .free "abs", .free "all", .free "any", .free "enumerate", .free "int", .free "len", .free "list", .free "max", .free "min", .free "range", .free "sum", .free "super", .free "tuple", .free "zip", .cls "Stock", .mkr "Stock"]
def fa2 : List He.Fa := [.noat "Stock" "way", .noat "Stock" "lots", .noat "Stock" "gone", .noat "Stock" "came", .meth "Stock" "come", .meth "Stock" "go", .meth "Stock" "there", .meth "Stock" "worth", .meth "Stock" "come_back", .meth "Stock" "look", .meth "Stock" "lowered", .exc "WageFault", .keep "WageFault", .exc "BadMoney", .keep "BadMoney", .exc "BadDay", .keep "BadDay", .exc "BadRule", .keep "BadRule", .keep "Unbalanced", .exc "Shut", .keep "Shut", .keep "Short", .keep "BadText", .exc "NoAnswer", .keep "NoAnswer", .exm "WageFault" "WageFault" true, .exm "WageFault" "BadMoney" false, .exm "WageFault" "BadDay" false, .exm "WageFault" "BadRule" false]
def fa3 : List He.Fa := [.exm "WageFault" "Unbalanced" false, .exm "WageFault" "Shut" false, .exm "WageFault" "Short" false, .exm "WageFault" "BadText" false, .exm "WageFault" "NoAnswer" false, .exm "BadMoney" "WageFault" true, .exm "BadMoney" "BadMoney" true, .exm "BadMoney" "BadDay" false, .exm "BadMoney" "BadRule" false, .exm "BadMoney" "Unbalanced" false, .exm "BadMoney" "Shut" false, .exm "BadMoney" "Short" false, .exm "BadMoney" "BadText" false, .exm "BadMoney" "NoAnswer" false, .exm "BadDay" "WageFault" true, .exm "BadDay" "BadMoney" false, .exm "BadDay" "BadDay" true, .exm "BadDay" "BadRule" false, .exm "BadDay" "Unbalanced" false, .exm "BadDay" "Shut" false, .exm "BadDay" "Short" false, .exm "BadDay" "BadText" false, .exm "BadDay" "NoAnswer" false, .exm "BadRule" "WageFault" true, .exm "BadRule" "BadMoney" false, .exm "BadRule" "BadDay" false, .exm "BadRule" "BadRule" true, .exm "BadRule" "Unbalanced" false, .exm "BadRule" "Shut" false, .exm "BadRule" "Short" false]
def fa4 : List He.Fa := [.exm "BadRule" "BadText" false, .exm "BadRule" "NoAnswer" false, .exm "Shut" "WageFault" true, .exm "Shut" "BadMoney" false, .exm "Shut" "BadDay" false, .exm "Shut" "BadRule" false, .exm "Shut" "Unbalanced" false, .exm "Shut" "Shut" true, .exm "Shut" "Short" false, .exm "Shut" "BadText" false, .exm "Shut" "NoAnswer" false, .exm "NoAnswer" "WageFault" true, .exm "NoAnswer" "BadMoney" false, .exm "NoAnswer" "BadDay" false, .exm "NoAnswer" "BadRule" false, .exm "NoAnswer" "Unbalanced" false, .exm "NoAnswer" "Shut" false, .exm "NoAnswer" "Short" false, .exm "NoAnswer" "BadText" false, .exm "NoAnswer" "NoAnswer" true, .exm "Short" "WageFault" true, .exm "Short" "BadMoney" false, .exm "Short" "BadDay" false, .exm "Short" "BadRule" false, .exm "Short" "Unbalanced" false, .exm "Short" "Shut" false, .exm "Short" "Short" true, .exm "Short" "BadText" false, .exm "Short" "NoAnswer" false]
def fa : List He.Fa := fa0 ++ fa1 ++ fa2 ++ fa3 ++ fa4
def tf : List He.Defn := [("Stock", some "there"), ("Stock", some "worth"), ("Stock", some "look"), ("Stock", some "lowered"), ("how_many", none), ("by_use", none), ("with_parts", none), ("is_slower", none), ("_law_stock", none), ("_law_asked", none), ("law", none)]
abbrev R : PySem.W.OpenRow := PySem.W.OpenLaw.row PySem.Challenge.rw_wagehall_k11_stock_and_wear
def exB (K : PySem.W.Frag) : Bool := decide ((tf.map fun p => (He.cT K p).2).Nodup) && (clsB K PySem.Challenge.pw_wagehall_k11_stock_and_wear (He.ga K "Short") "lacking" "lacking" (defBody (inClass (top 7) 0)) && He.tupB K "RULES" ((["down", "up", "half up", "half even", "half down"] : List Str).map He.Dv.str))
abbrev hk : PySem.W.Hook := hookY 5 fa fn [] tf exB
def ob (s : PySem.W.SharedT) : hk.α := obsY 5 fa fn [] tf exB (HandSHeadRun.getT s)
theorem ob_eq (s : PySem.W.SharedT) : ob s = hk.obs s.abs := obsY_eq (HandSHeadRun.getT_eq s)
def nm0 : List PySem.Str := ["WageFault", "BadMoney", "BadDay", "BadRule", "Unbalanced", "Shut", "Short", "BadText", "NoAnswer", "part", "times", "order", "rounded", "Stock", "by_hand", "when_to_ask", "how_many", "look_asked", "check_thing", "even", "falling", "switched", "by_digits", "by_use", "left_after", "sold", "with_parts", "within_year", "when_worn", "tested"]
def nm1 : List PySem.Str := ["cheaper", "is_slower", "mean_wear", "near", "_law_dice", "_law_roll", "_law_rounds", "_law_told", "_law_cut", "_law_stock", "_law_asked", "_law_more", "RULES"]
def names : List PySem.Str := nm0 ++ nm1
theorem run (w : World) : HandSHeadRun.RunEq R (PySem.W.view R.prog [48]) hk ob 20000 names w := by
  intro os
  kernel_rfl
end Pr
set_option Elab.async false
set_option linter.all false
namespace Pr
open PySem PySem.Spec PyProof.Rows L2 DL
def raisable : List String := ["BadMoney", "BadDay", "BadRule", "Shut", "Short", "NoAnswer"]
def tellers : List (String × Str) := [("BadMoney", "money"), ("BadDay", "day"), ("BadRule", "rule"), ("Unbalanced", "unbalanced"), ("Shut", "shut"), ("Short", "short"), ("BadText", "text"), ("NoAnswer", "no answer")]
/-- _law_dice: slots 0 cell -/
def f__law_dice : DS :=
  (dSeq (dIfS (dB (dChain ltD ltD (dOp subD (dC (.int 0)) (dC (.int 10))) (dVar 0) (dC (.int 10))))
  (dRet (dLst (daCons (dBlt absD (daCons (dVar 0) daNil)) (daCons (dC (.int 0)) (daCons (dC (.int 2)) daNil)))))
  dNext)
  (dRet (dLst (daCons (dVar 0) (daCons (dOp addD (dC (.int 1)) (dOp modD (dBlt intD (daCons (dVar 0) daNil)) (dC (.int 1009)))) (daCons (dBlt intD (daCons (dOp geD (dVar 0) (dOp powD (dC (.int 10)) (dC (.int 18)))) daNil)) daNil))))))
def M__law_dice : DF := runD 1 f__law_dice
/-- _law_rounds: slots 0 script, 1 most, 2 cells, 3 cell -/
def f__law_rounds (M__law_dice : DF) : DS :=
  (dSeq (dAsg (dSl (dVar 0) dpNone (dpSome (dVar 1))) (gN 2))
  (dSeq (dIfS (dB (dOp eqD (dVar 2) (dLst daNil)))
  (dAsg (dLst (daCons (dC (.int 0)) daNil)) (gN 2))
  dNext)
  (dRet (dLc (diSeq (dVar 2)) (gN 3) dYes (dCall 1 M__law_dice (daCons (dVar 3) daNil)) [3]))))
def M__law_rounds : DF := runD 4 (f__law_rounds M__law_dice)
/-- _law_roll: slots 0 dice, 1 many, 2 found -/
def f__law_roll : DS :=
  (dSeq (dIfS (dOrT (dB (dOp eqD (dOp ixD (dVar 0) (dC (.int 2))) (dC (.int 2)))) (dAndT (dB (dOp eqD (dOp ixD (dVar 0) (dC (.int 2))) (dC (.int 1)))) (dB (dOp gtD (dOp ixD (dVar 0) (dC (.int 0))) (dC (.int 0))))))
  (dSeq (dAsg (dOp modD (dBlt intD (daCons (dOp ixD (dVar 0) (dC (.int 0))) daNil)) (dVar 1)) (gN 2))
  (dSeq (dAsg (dOp fdivD (dOp ixD (dVar 0) (dC (.int 0))) (dVar 1)) (gIx (dVar 0) (dC (.int 0))))
  (dRet (dVar 2))))
  dNext)
  (dSeq (dAsg (dC (.int 0)) (gIx (dVar 0) (dC (.int 2))))
  (dSeq (dAsg (dOp modD (dBlt intD (daCons (dOp addD (dOp addD (dOp mulD (dOp ixD (dVar 0) (dC (.int 0))) (dC (.int 48271))) (dOp mulD (dOp ixD (dVar 0) (dC (.int 1))) (dC (.int 69621)))) (dC (.int 11))) daNil)) (dC (.int 2147483647))) (gIx (dVar 0) (dC (.int 0))))
  (dSeq (dAsg (dOp addD (dOp ixD (dVar 0) (dC (.int 1))) (dC (.int 1))) (gIx (dVar 0) (dC (.int 1))))
  (dRet (dOp modD (dBlt intD (daCons (dOp addD (dOp fdivD (dOp ixD (dVar 0) (dC (.int 0))) (dC (.int 7))) (dOp ixD (dVar 0) (dC (.int 0)))) daNil)) (dVar 1)))))))
def M__law_roll : DF := runD 3 f__law_roll
/-- check_thing: slots 0 cost, 1 rest, 2 years -/
def f_check_thing : DS :=
  (dIfS (dOrT (dNotT (dB (dChain leD leD (dC (.int 0)) (dVar 1) (dVar 0)))) (dB (dOp ltD (dVar 2) (dC (.int 1)))))
  (dRaise "BadRule")
  dNext)
def M_check_thing : DF := runD 3 f_check_thing
/-- even: slots 0 cost, 1 rest, 2 years, 3 whole, 4 k -/
def f_even (M_check_thing : DF) : DS :=
  (dSeq (dDrop (dCall 3 M_check_thing (daCons (dVar 0) (daCons (dVar 1) (daCons (dVar 2) daNil)))))
  (dSeq (dAsg (dOp subD (dVar 0) (dVar 1)) (gN 3))
  (dRet (dBlt tupleD (daCons (dLc (diRange1 (dVar 2)) (gN 4) dYes (dOp subD (dOp fdivD (dOp mulD (dVar 3) (dOp addD (dVar 4) (dC (.int 1)))) (dVar 2)) (dOp fdivD (dOp mulD (dVar 3) (dVar 4)) (dVar 2))) [4]) daNil)))))
def M_even : DF := runD 5 (f_even M_check_thing)
/-- is_slower: slots 0 one, 1 other, 2 k -/
def f_is_slower : DS :=
  (dRet (dAllX (diRange1 (dOp addD (dBlt maxD (daCons (dBlt lenD (daCons (dVar 0) daNil)) (daCons (dBlt lenD (daCons (dVar 1) daNil)) daNil))) (dC (.int 1)))) (gN 2) dYes (dOp leD (dBlt sumLT (daCons (dSl (dVar 0) dpNone (dpSome (dVar 2))) daNil)) (dBlt sumLT (daCons (dSl (dVar 1) dpNone (dpSome (dVar 2))) daNil))) [2]))
def M_is_slower : DF := runD 3 f_is_slower
/-- with_parts: slots 0 pieces, 1 rows, 2 many, 3 cost, 4 rest, 5 years, 6 k, 7 row -/
def f_with_parts (M_even : DF) : DS :=
  (dSeq (dAsg (dLc (diSeq (dVar 0)) (gT 3 (gsCons (gN 3) (gsCons (gN 4) (gsCons (gN 5) gsNil)))) dYes (dCall 3 M_even (daCons (dVar 3) (daCons (dVar 4) (daCons (dVar 5) daNil)))) [3, 4, 5]) (gN 1))
  (dSeq (dAsg (dBlt maxT (daCons (dOp addD (dLst (daCons (dC (.int 0)) daNil)) (dLc (diSeq (dVar 1)) (gN 7) dYes (dBlt lenD (daCons (dVar 7) daNil)) [7])) daNil)) (gN 2))
  (dRet (dBlt tupleD (daCons (dLc (diRange1 (dVar 2)) (gN 6) dYes (dSumX (diSeq (dVar 1)) (gN 7) (dB (dOp ltD (dVar 6) (dBlt lenD (daCons (dVar 7) daNil)))) (dOp ixD (dVar 7) (dVar 6)) [7]) [6]) daNil)))))
def M_with_parts : DF := runD 8 (f_with_parts M_even)
/-- tested: slots 0 left, 1 worth -/
def f_tested : DS :=
  (dRet (dTup (daCons (dBlt maxD (daCons (dC (.int 0)) (daCons (dOp subD (dVar 0) (dVar 1)) daNil))) (daCons (dBlt minD (daCons (dVar 0) (daCons (dVar 1) daNil))) daNil))))
def M_tested : DF := runD 2 f_tested
/-- cheaper: slots 0 years, 1 keeps, 2 price, 3 saves, 4 k -/
def f_cheaper : DS :=
  (dSeq (dFor (diRange1 (dVar 0)) (gN 4)
  (dIfS (dB (dOp leD (dOp subD (dVar 2) (dOp mulD (dVar 3) (dOp subD (dVar 0) (dVar 4)))) (dBlt sumLT (daCons (dSl (dVar 1) (dpSome (dVar 4)) dpNone) daNil))))
  (dRet (dVar 4))
  dNext))
  (dRet (dC .non)))
def M_cheaper : DF := runD 5 f_cheaper
/-- rounded: slots 0 a, 1 rule, 2 sign, 3 whole, 4 rest, 5 up -/
def f_rounded : DS :=
  (dSeq (dIfS (dB (dOp notInD (dVar 1) (dC (.tup [.str "down", .str "up", .str "half up", .str "half even", .str "half down"]))))
  (dRaise "BadRule")
  dNext)
  (dSeq (dAsg (dIf (dB (dOp ltD (dOp ixD (dVar 0) (dC (.int 0))) (dC (.int 0)))) (dUn negD (dC (.int 1))) (dC (.int 1))) (gN 2))
  (dSeq (dPar2 3 4 (daCons (dOp fdivD (dBlt absD (daCons (dOp ixD (dVar 0) (dC (.int 0))) daNil)) (dOp ixD (dVar 0) (dC (.int 1)))) (daCons (dOp modD (dBlt absD (daCons (dOp ixD (dVar 0) (dC (.int 0))) daNil)) (dOp ixD (dVar 0) (dC (.int 1)))) daNil)))
  (dSeq (dAsg (dOrV (dAndV (dOp eqD (dVar 1) (dC (.str "up"))) (dOp gtD (dVar 4) (dC (.int 0)))) (dAndV (dOp gtD (dOp mulD (dC (.int 2)) (dVar 4)) (dOp ixD (dVar 0) (dC (.int 1)))) (dOp eqD (dSl (dVar 1) dpNone (dpSome (dC (.int 4)))) (dC (.str "half"))))) (gN 5))
  (dSeq (dIfS (dAndT (dB (dOp eqD (dOp mulD (dC (.int 2)) (dVar 4)) (dOp ixD (dVar 0) (dC (.int 1))))) (dB (dOp eqD (dSl (dVar 1) dpNone (dpSome (dC (.int 4)))) (dC (.str "half")))))
  (dAsg (dOrV (dOp eqD (dVar 1) (dC (.str "half up"))) (dAndV (dOp eqD (dVar 1) (dC (.str "half even"))) (dOp eqD (dOp modD (dVar 3) (dC (.int 2))) (dC (.int 1))))) (gN 5))
  dNext)
  (dRet (dOp mulD (dVar 2) (dOp addD (dVar 3) (dBlt intD (daCons (dVar 5) daNil))))))))))
def M_rounded : DF := runD 6 f_rounded
/-- part: slots 0 top, 1 bottom, 2 a, 3 b, 4 sign -/
def f_part : DS :=
  (dSeq (dIfS (dB (dOp eqD (dVar 1) (dC (.int 0))))
  (dRaise "BadRule")
  dNext)
  (dSeq (dPar2 2 3 (daCons (dBlt absD (daCons (dVar 0) daNil)) (daCons (dBlt absD (daCons (dVar 1) daNil)) daNil)))
  (dSeq (whileD (dB (dOp neD (dVar 3) (dC (.int 0)))) (dPar2 2 3 (daCons (dVar 3) (daCons (dOp modD (dVar 2) (dVar 3)) daNil))) fuel)
  (dSeq (dAsg (dIf (dB (dOp gtD (dVar 1) (dC (.int 0)))) (dC (.int 1)) (dUn negD (dC (.int 1)))) (gN 4))
  (dSeq (dAsg (dBlt maxD (daCons (dVar 2) (daCons (dC (.int 1)) daNil))) (gN 2))
  (dRet (dTup (daCons (dOp fdivD (dOp mulD (dVar 4) (dVar 0)) (dVar 2)) (daCons (dOp fdivD (dBlt absD (daCons (dVar 1) daNil)) (dVar 2)) daNil)))))))))
def M_part : DF := runD 5 f_part
/-- by_hand: slots 0 lots, 1 picks, 2 left, 3 worth, 4 k, 5 count, 6 cut, 7 lot -/
def f_by_hand (M_part : DF) (M_rounded : DF) : DS :=
  (dSeq (dPar2 2 3 (daCons (dLc (diSeq (dVar 0)) (gN 7) dYes (dBlt listD (daCons (dVar 7) daNil)) [7]) (daCons (dC (.int 0)) daNil)))
  (dSeq (dFor (diSeq (dVar 1)) (gT 2 (gsCons (gN 4) (gsCons (gN 5) gsNil)))
  (dSeq (dIfS (dOrT (dNotT (dB (dChain leD ltD (dC (.int 0)) (dVar 4) (dBlt lenD (daCons (dVar 2) daNil))))) (dB (dOp ltD (dVar 5) (dC (.int 1)))))
  (dRaise "BadRule")
  dNext)
  (dSeq (dIfS (dB (dOp gtD (dVar 5) (dOp ixD (dOp ixD (dVar 2) (dVar 4)) (dC (.int 0)))))
  (dRaiseI "Short" (dOp subD (dVar 5) (dOp ixD (dOp ixD (dVar 2) (dVar 4)) (dC (.int 0)))))
  dNext)
  (dSeq (dAsg (dCall 2 M_rounded (daCons (dCall 2 M_part (daCons (dOp mulD (dOp ixD (dOp ixD (dVar 2) (dVar 4)) (dC (.int 1))) (dVar 5)) (daCons (dOp ixD (dOp ixD (dVar 2) (dVar 4)) (dC (.int 0))) daNil))) (daCons (dC (.str "half up")) daNil))) (gN 6))
  (dSeq (dAug 3 iaddD (dVar 6))
  (dAsg (dLst (daCons (dOp subD (dOp ixD (dOp ixD (dVar 2) (dVar 4)) (dC (.int 0))) (dVar 5)) (daCons (dOp subD (dOp ixD (dOp ixD (dVar 2) (dVar 4)) (dC (.int 1))) (dVar 6)) daNil))) (gIx (dVar 2) (dVar 4))))))))
  (dRet (dTup (daCons (dVar 3) (daCons (dBlt tupleD (daCons (dLc (diSeq (dVar 2)) (gN 7) (dB (dOp gtD (dOp ixD (dVar 7) (dC (.int 0))) (dC (.int 0)))) (dBlt tupleD (daCons (dVar 7) daNil)) [7]) daNil)) daNil))))))
def M_by_hand : DF := runD 8 (f_by_hand M_part M_rounded)
/-- within_year: slots 0 wear, 1 months, 2 found, 3 carried, 4 one, 5 first -/
def f_within_year : DS :=
  (dSeq (dIfS (dOrT (dNotT (dB (dChain ltD leD (dC (.int 0)) (dVar 1) (dC (.int 12))))) (dB (dOp eqD (dBlt lenD (daCons (dVar 0) daNil)) (dC (.int 0)))))
  (dRaise "BadRule")
  dNext)
  (dSeq (dPar2 2 3 (daCons (dLst daNil) (daCons (dC (.int 0)) daNil)))
  (dSeq (dFor (diSeq (dVar 0)) (gN 4)
  (dSeq (dAsg (dOp fdivD (dOp mulD (dVar 4) (dVar 1)) (dC (.int 12))) (gN 5))
  (dSeq (dDrop (dApp (dVar 2) (dOp addD (dVar 3) (dVar 5))))
  (dAsg (dOp subD (dVar 4) (dVar 5)) (gN 3)))))
  (dSeq (dIfS (dB (dOp ltD (dVar 1) (dC (.int 12))))
  (dDrop (dApp (dVar 2) (dVar 3)))
  (dAugS (dVar 2) (dUn negD (dC (.int 1))) iaddD (dVar 3)))
  (dRet (dBlt tupleD (daCons (dVar 2) daNil)))))))
def M_within_year : DF := runD 6 f_within_year
/-- _law_more: slots 0 dice, 1 cost, 2 rest, 3 years, 4 flat, 5 parts_there, 6 keeps, 7 due, 8 k -/
def f__law_more (M_by_hand : DF) (M_cheaper : DF) (M_tested : DF) (M__law_roll : DF) (M_within_year : DF) (M_with_parts : DF) : DS :=
  (dSeq (dAsg (dCall 1 M_with_parts (daCons (dTup (daCons (dTup (daCons (dVar 1) (daCons (dVar 2) (daCons (dVar 3) daNil)))) (daCons (dTup (daCons (dC (.int 40)) (daCons (dC (.int 0)) (daCons (dC (.int 2)) daNil)))) daNil))) daNil)) (gN 5))
  (dSeq (dIfS (dB (dOp neD (dBlt sumLT (daCons (dVar 5) daNil)) (dOp addD (dOp subD (dVar 1) (dVar 2)) (dC (.int 40)))))
  (dRet (dC (.bl false)))
  dNext)
  (dSeq (dIfS (dOrT (dB (dOp neD (dBlt sumLT (daCons (dCall 2 M_within_year (daCons (dVar 4) (daCons (dOp addD (dC (.int 1)) (dCall 2 M__law_roll (daCons (dVar 0) (daCons (dC (.int 12)) daNil)))) daNil))) daNil)) (dOp subD (dVar 1) (dVar 2)))) (dB (dOp neD (dCall 2 M_tested (daCons (dC (.int 50)) (daCons (dC (.int 30)) daNil))) (dTup (daCons (dC (.int 20)) (daCons (dC (.int 30)) daNil))))))
  (dRet (dC (.bl false)))
  dNext)
  (dSeq (dIfS (dB (dOp neD (dCall 2 M_tested (daCons (dC (.int 50)) (daCons (dC (.int 60)) daNil))) (dTup (daCons (dC (.int 0)) (daCons (dC (.int 50)) daNil)))))
  (dRet (dC (.bl false)))
  dNext)
  (dSeq (dAsg (dLst (daCons (dC (.int 10)) (daCons (dC (.int 20)) (daCons (dC (.int 40)) daNil)))) (gN 6))
  (dSeq (dAsg (dLc (diRange1 (dC (.int 3))) (gN 8) (dB (dOp leD (dOp subD (dC (.int 50)) (dOp mulD (dC (.int 5)) (dOp subD (dC (.int 3)) (dVar 8)))) (dBlt sumLT (daCons (dSl (dVar 6) (dpSome (dVar 8)) dpNone) daNil)))) (dVar 8) [8]) (gN 7))
  (dSeq (dIfS (dB (dOp neD (dCall 4 M_cheaper (daCons (dC (.int 3)) (daCons (dVar 6) (daCons (dC (.int 50)) (daCons (dC (.int 5)) daNil))))) (dIf (dB (dOp neD (dVar 7) (dLst daNil))) (dOp ixD (dVar 7) (dC (.int 0))) (dC .non))))
  (dRet (dC (.bl false)))
  dNext)
  (dSeq (dIfS (dB (dOp neD (dCall 2 M_by_hand (daCons (dTup (daCons (dTup (daCons (dC (.int 3)) (daCons (dC (.int 10)) daNil))) (daCons (dTup (daCons (dC (.int 2)) (daCons (dC (.int 8)) daNil))) daNil))) (daCons (dTup (daCons (dTup (daCons (dC (.int 0)) (daCons (dC (.int 1)) daNil))) (daCons (dTup (daCons (dC (.int 1)) (daCons (dC (.int 2)) daNil))) daNil))) daNil))) (dTup (daCons (dOp addD (dC (.int 3)) (dC (.int 8))) (daCons (dTup (daCons (dTup (daCons (dC (.int 2)) (daCons (dC (.int 7)) daNil))) daNil)) daNil)))))
  (dRet (dC (.bl false)))
  dNext)
  (dRet (dC (.bl true)))))))))))
def M__law_more : DF := runD 9 (f__law_more M_by_hand M_cheaper M_tested M__law_roll M_within_year M_with_parts)
/-- Stock_worth: slots 0 self, 1 many, 2 much -/
def f_Stock_worth : DS :=
  (dRet (dSumX (diSeq (dFld ["Stock"] "lots" (dVar 0))) (gT 2 (gsCons (gN 1) (gsCons (gN 2) gsNil))) dYes (dVar 2) [1, 2]))
def M_Stock_worth : DF := runD 3 f_Stock_worth
/-- Stock_lowered: slots 0 self, 1 price, 2 found, 3 many, 4 much, 5 off -/
def f_Stock_lowered (M_Stock_worth : DF) : DS :=
  (dSeq (dIfS (dB (dOp ltD (dVar 1) (dC (.int 0))))
  (dRaise "BadRule")
  dNext)
  (dSeq (dAsg (dLst daNil) (gN 2))
  (dSeq (dFor (diSeq (dFld ["Stock"] "lots" (dVar 0))) (gT 2 (gsCons (gN 3) (gsCons (gN 4) gsNil)))
  (dDrop (dApp (dVar 2) (dTup (daCons (dVar 3) (daCons (dBlt minD (daCons (dVar 4) (daCons (dOp mulD (dVar 3) (dVar 1)) daNil))) daNil))))))
  (dSeq (dAsg (dOp subD (dMeth "Stock" "worth" 1 M_Stock_worth (dVar 0) daNil) (dSumX (diSeq (dVar 2)) (gT 2 (gsCons (gN 3) (gsCons (gN 4) gsNil))) dYes (dVar 4) [3, 4])) (gN 5))
  (dSeq (dPutF ["Stock"] "lots" (dVar 0) (dVar 2))
  (dSeq (dDrop (dApp (dFld ["Stock"] "came" (dVar 0)) (dTup (daCons (dC (.int 0)) (daCons (dUn negD (dVar 5)) daNil)))))
  (dRet (dVar 5))))))))
def M_Stock_lowered : DF := runD 6 (f_Stock_lowered M_Stock_worth)
/-- Stock___init__: slots 0 self, 1 way -/
def f_Stock___init__ : DS :=
  (dSeq (dIfS (dB (dOp notInD (dVar 1) (dTup (daCons (dC (.str "first")) (daCons (dC (.str "last")) (daCons (dC (.str "mean")) daNil))))))
  (dRaise "BadRule")
  dNext)
  (dSeq (dPutF ["Stock"] "way" (dVar 0) (dVar 1))
  (dSeq (dPutF ["Stock"] "lots" (dVar 0) (dLst daNil))
  (dSeq (dPutF ["Stock"] "gone" (dVar 0) (dLst daNil))
  (dPutF ["Stock"] "came" (dVar 0) (dLst daNil))))))
def M_Stock___init__ : DF := runD 2 f_Stock___init__
/-- Stock_there: slots 0 self, 1 many, 2 much -/
def f_Stock_there : DS :=
  (dRet (dSumX (diSeq (dFld ["Stock"] "lots" (dVar 0))) (gT 2 (gsCons (gN 1) (gsCons (gN 2) gsNil))) dYes (dVar 1) [1, 2]))
def M_Stock_there : DF := runD 3 f_Stock_there
/-- Stock_look: slots 0 self, 1 came, 2 went, 3 many, 4 much -/
def f_Stock_look (M_Stock_worth : DF) (M_Stock_there : DF) : DS :=
  (dSeq (dAsg (dTup (daCons (dSumX (diSeq (dFld ["Stock"] "came" (dVar 0))) (gT 2 (gsCons (gN 3) (gsCons (gN 4) gsNil))) dYes (dVar 3) [3, 4]) (daCons (dSumX (diSeq (dFld ["Stock"] "came" (dVar 0))) (gT 2 (gsCons (gN 3) (gsCons (gN 4) gsNil))) dYes (dVar 4) [3, 4]) daNil))) (gN 1))
  (dSeq (dAsg (dTup (daCons (dSumX (diSeq (dFld ["Stock"] "gone" (dVar 0))) (gT 2 (gsCons (gN 3) (gsCons (gN 4) gsNil))) dYes (dVar 3) [3, 4]) (daCons (dSumX (diSeq (dFld ["Stock"] "gone" (dVar 0))) (gT 2 (gsCons (gN 3) (gsCons (gN 4) gsNil))) dYes (dVar 4) [3, 4]) daNil))) (gN 2))
  (dRet (dOp eqD (dVar 1) (dTup (daCons (dOp addD (dMeth "Stock" "there" 1 M_Stock_there (dVar 0) daNil) (dOp ixD (dVar 2) (dC (.int 0)))) (daCons (dOp addD (dMeth "Stock" "worth" 1 M_Stock_worth (dVar 0) daNil) (dOp ixD (dVar 2) (dC (.int 1)))) daNil)))))))
def M_Stock_look : DF := runD 5 (f_Stock_look M_Stock_worth M_Stock_there)
/-- Stock_come: slots 0 self, 1 count, 2 worth -/
def f_Stock_come : DS :=
  (dSeq (dIfS (dOrT (dB (dOp ltD (dVar 1) (dC (.int 1)))) (dB (dOp ltD (dVar 2) (dC (.int 0)))))
  (dRaise "BadRule")
  dNext)
  (dSeq (dDrop (dApp (dFld ["Stock"] "came" (dVar 0)) (dTup (daCons (dVar 1) (daCons (dVar 2) daNil)))))
  (dIfS (dAndT (dB (dOp eqD (dFld ["Stock"] "way" (dVar 0)) (dC (.str "mean")))) (dB (dOp neD (dFld ["Stock"] "lots" (dVar 0)) (dLst daNil))))
  (dPutF ["Stock"] "lots" (dVar 0) (dLst (daCons (dTup (daCons (dOp addD (dOp ixD (dOp ixD (dFld ["Stock"] "lots" (dVar 0)) (dC (.int 0))) (dC (.int 0))) (dVar 1)) (daCons (dOp addD (dOp ixD (dOp ixD (dFld ["Stock"] "lots" (dVar 0)) (dC (.int 0))) (dC (.int 1))) (dVar 2)) daNil))) daNil)))
  (dDrop (dApp (dFld ["Stock"] "lots" (dVar 0)) (dTup (daCons (dVar 1) (daCons (dVar 2) daNil))))))))
def M_Stock_come : DF := runD 3 f_Stock_come
/-- _law_cut: slots 0 lots, 1 count, 2 is_last, 3 left, 4 much_there, 5 many, 6 much, 7 here, 8 cut, 9 rest -/
def f__law_cut : DS :=
  (dSeq (dPar2 3 4 (daCons (dBlt listD (daCons (dVar 0) daNil)) (daCons (dC (.int 0)) daNil)))
  (dSeq (whileD (dB (dOp gtD (dVar 1) (dC (.int 0)))) (dSeq (dAsg (dOp ixD (dVar 3) (dIf (dB (dVar 2)) (dOp subD (dBlt lenD (daCons (dVar 3) daNil)) (dC (.int 1))) (dC (.int 0)))) (gT 2 (gsCons (gN 5) (gsCons (gN 6) gsNil))))
  (dSeq (dAsg (dBlt minD (daCons (dVar 5) (daCons (dVar 1) daNil))) (gN 7))
  (dSeq (dAsg (dIf (dB (dOp eqD (dVar 7) (dVar 5))) (dVar 6) (dOp fdivD (dOp addD (dOp mulD (dOp mulD (dC (.int 2)) (dVar 6)) (dVar 7)) (dVar 5)) (dOp mulD (dC (.int 2)) (dVar 5)))) (gN 8))
  (dSeq (dPar2 4 1 (daCons (dOp addD (dVar 4) (dVar 8)) (daCons (dOp subD (dVar 1) (dVar 7)) daNil)))
  (dSeq (dAsg (dIf (dB (dOp ltD (dVar 7) (dVar 5))) (dLst (daCons (dTup (daCons (dOp subD (dVar 5) (dVar 7)) (daCons (dOp subD (dVar 6) (dVar 8)) daNil))) daNil)) (dLst daNil)) (gN 9))
  (dAsg (dIf (dB (dVar 2)) (dOp addD (dSl (dVar 3) dpNone (dpSome (dOp subD (dBlt lenD (daCons (dVar 3) daNil)) (dC (.int 1))))) (dVar 9)) (dOp addD (dVar 9) (dSl (dVar 3) (dpSome (dC (.int 1))) dpNone))) (gN 3))))))) fuel)
  (dRet (dTup (daCons (dVar 4) (daCons (dVar 3) daNil))))))
def M__law_cut : DF := runD 10 f__law_cut
/-- Stock_come_back: slots 0 self, 1 count, 2 many, 3 much, 4 cut -/
def f_Stock_come_back (M_Stock_come : DF) (M_part : DF) (M_rounded : DF) : DS :=
  (dSeq (dIfS (dOrT (dB (dOp eqD (dFld ["Stock"] "gone" (dVar 0)) (dLst daNil))) (dOrT (dB (dOp ltD (dVar 1) (dC (.int 1)))) (dB (dOp gtD (dVar 1) (dOp ixD (dOp ixD (dFld ["Stock"] "gone" (dVar 0)) (dUn negD (dC (.int 1)))) (dC (.int 0)))))))
  (dRaise "BadRule")
  dNext)
  (dSeq (dAsg (dLM0 pop0D (dFld ["Stock"] "gone" (dVar 0))) (gT 2 (gsCons (gN 2) (gsCons (gN 3) gsNil))))
  (dSeq (dAsg (dCall 2 M_rounded (daCons (dCall 2 M_part (daCons (dOp mulD (dVar 3) (dVar 1)) (daCons (dVar 2) daNil))) (daCons (dC (.str "half up")) daNil))) (gN 4))
  (dSeq (dIfS (dB (dOp ltD (dVar 1) (dVar 2)))
  (dDrop (dApp (dFld ["Stock"] "gone" (dVar 0)) (dTup (daCons (dOp subD (dVar 2) (dVar 1)) (daCons (dOp subD (dVar 3) (dVar 4)) daNil)))))
  dNext)
  (dSeq (dDrop (dMeth "Stock" "come" 3 M_Stock_come (dVar 0) (daCons (dVar 1) (daCons (dVar 4) daNil))))
  (dSeq (dDrop (dLM0 pop0D (dFld ["Stock"] "came" (dVar 0))))
  (dRet (dVar 4))))))))
def M_Stock_come_back : DF := runD 5 (f_Stock_come_back M_Stock_come M_part M_rounded)
/-- Stock_go: slots 0 self, 1 count, 2 there, 3 left, 4 worth, 5 k, 6 many, 7 much, 8 cut -/
def f_Stock_go (M_part : DF) (M_rounded : DF) (M_Stock_there : DF) : DS :=
  (dSeq (dAsg (dMeth "Stock" "there" 1 M_Stock_there (dVar 0) daNil) (gN 2))
  (dSeq (dIfS (dB (dOp ltD (dVar 1) (dC (.int 1))))
  (dRaise "BadRule")
  dNext)
  (dSeq (dIfS (dB (dOp gtD (dVar 1) (dVar 2)))
  (dRaiseI "Short" (dOp subD (dVar 1) (dVar 2)))
  dNext)
  (dSeq (dPar2 3 4 (daCons (dVar 1) (daCons (dC (.int 0)) daNil)))
  (dSeq (whileD (dB (dOp gtD (dVar 3) (dC (.int 0)))) (dSeq (dAsg (dIf (dB (dOp eqD (dFld ["Stock"] "way" (dVar 0)) (dC (.str "last")))) (dUn negD (dC (.int 1))) (dC (.int 0))) (gN 5))
  (dSeq (dAsg (dOp ixD (dFld ["Stock"] "lots" (dVar 0)) (dVar 5)) (gT 2 (gsCons (gN 6) (gsCons (gN 7) gsNil))))
  (dIfS (dB (dOp leD (dVar 6) (dVar 3)))
  (dSeq (dAug 4 iaddD (dVar 7))
  (dSeq (dAug 3 isubD (dVar 6))
  (dDrop (dLM1 pop1D (dFld ["Stock"] "lots" (dVar 0)) (dVar 5)))))
  (dSeq (dAsg (dCall 2 M_rounded (daCons (dCall 2 M_part (daCons (dOp mulD (dVar 7) (dVar 3)) (daCons (dVar 6) daNil))) (daCons (dC (.str "half up")) daNil))) (gN 8))
  (dSeq (dAug 4 iaddD (dVar 8))
  (dSeq (dAsg (dTup (daCons (dOp subD (dVar 6) (dVar 3)) (daCons (dOp subD (dVar 7) (dVar 8)) daNil))) (gIx (dFld ["Stock"] "lots" (dVar 0)) (dVar 5)))
  (dAsg (dC (.int 0)) (gN 3)))))))) fuel)
  (dSeq (dDrop (dApp (dFld ["Stock"] "gone" (dVar 0)) (dTup (daCons (dVar 1) (daCons (dVar 4) daNil)))))
  (dRet (dVar 4))))))))
def M_Stock_go : DF := runD 9 (f_Stock_go M_part M_rounded M_Stock_there)
/-- _law_stock: slots 0 dice, 1 way, 2 stock, 3 lots, 4 turn, 5 count, 6 much_there, 7 there, 8 due, 9 price, 10 before, 11 off, 12 lot, 13 many, 14 much -/
def f__law_stock (M_Stock_look : DF) (M_Stock_worth : DF) (M_Stock_lowered : DF) (M__law_roll : DF) (M_Stock_come_back : DF) (M_Stock_there : DF) (M_Stock_come : DF) (M_Stock_go : DF) (M__law_cut : DF) (M_Stock___init__ : DF) : DS :=
  (dSeq (dAsg (dOp ixD (dLst (daCons (dC (.str "first")) (daCons (dC (.str "last")) (daCons (dC (.str "mean")) daNil)))) (dCall 2 M__law_roll (daCons (dVar 0) (daCons (dC (.int 3)) daNil)))) (gN 1))
  (dSeq (dAsg (dTup (daCons (dMake "Stock" 2 M_Stock___init__ (daCons (dVar 1) daNil)) (daCons (dLst daNil) daNil))) (gT 2 (gsCons (gN 2) (gsCons (gN 3) gsNil))))
  (dSeq (dFor (diRange1 (dCall 2 M__law_roll (daCons (dVar 0) (daCons (dC (.int 11)) daNil)))) (gN 4)
  (dSeq (dAsg (dTup (daCons (dOp addD (dC (.int 1)) (dCall 2 M__law_roll (daCons (dVar 0) (daCons (dC (.int 5)) daNil)))) (daCons (dCall 2 M__law_roll (daCons (dVar 0) (daCons (dC (.int 60)) daNil))) daNil))) (gT 2 (gsCons (gN 5) (gsCons (gN 6) gsNil))))
  (dSeq (dIfS (dB (dOp gtD (dCall 2 M__law_roll (daCons (dVar 0) (daCons (dC (.int 3)) daNil))) (dC (.int 0))))
  (dSeq (dDrop (dMeth "Stock" "come" 3 M_Stock_come (dVar 2) (daCons (dVar 5) (daCons (dVar 6) daNil))))
  (dAsg (dIf (dAndT (dB (dOp eqD (dVar 1) (dC (.str "mean")))) (dB (dOp neD (dVar 3) (dLst daNil)))) (dLst (daCons (dTup (daCons (dOp addD (dOp ixD (dOp ixD (dVar 3) (dC (.int 0))) (dC (.int 0))) (dVar 5)) (daCons (dOp addD (dOp ixD (dOp ixD (dVar 3) (dC (.int 0))) (dC (.int 1))) (dVar 6)) daNil))) daNil)) (dOp addD (dVar 3) (dLst (daCons (dTup (daCons (dVar 5) (daCons (dVar 6) daNil))) daNil)))) (gN 3)))
  (dSeq (dAsg (dBlt sumLT (daCons (dLc (diSeq (dVar 3)) (gT 2 (gsCons (gN 13) (gsCons (gN 14) gsNil))) dYes (dVar 13) [13, 14]) daNil)) (gN 7))
  (dSeq (dAsg (dC (.str "short")) (gN 8))
  (dSeq (dIfS (dB (dOp leD (dVar 5) (dVar 7)))
  (dAsg (dCall 3 M__law_cut (daCons (dVar 3) (daCons (dVar 5) (daCons (dOp eqD (dVar 1) (dC (.str "last"))) daNil)))) (gT 2 (gsCons (gN 8) (gsCons (gN 3) gsNil))))
  dNext)
  (dIfS (dB (dOp neD (dTold raisable tellers (dMeth "Stock" "go" 2 M_Stock_go (dVar 2) (daCons (dVar 5) daNil))) (dVar 8)))
  (dRet (dC (.bl false)))
  dNext)))))
  (dSeq (dIfS (dOrT (dB (dOp neD (dFld ["Stock"] "lots" (dVar 2)) (dVar 3))) (dOrT (dNotT (dB (dMeth "Stock" "look" 1 M_Stock_look (dVar 2) daNil))) (dB (dOp neD (dMeth "Stock" "there" 1 M_Stock_there (dVar 2) daNil) (dBlt sumLT (daCons (dLc (diSeq (dVar 3)) (gT 2 (gsCons (gN 13) (gsCons (gN 14) gsNil))) dYes (dVar 13) [13, 14]) daNil))))))
  (dRet (dC (.bl false)))
  dNext)
  (dIfS (dB (dOp neD (dMeth "Stock" "worth" 1 M_Stock_worth (dVar 2) daNil) (dBlt sumLT (daCons (dLc (diSeq (dVar 3)) (gT 2 (gsCons (gN 13) (gsCons (gN 14) gsNil))) dYes (dVar 14) [13, 14]) daNil))))
  (dRet (dC (.bl false)))
  dNext)))))
  (dSeq (dIfS (dB (dOp neD (dFld ["Stock"] "gone" (dVar 2)) (dLst daNil)))
  (dSeq (dAsg (dOp ixD (dFld ["Stock"] "gone" (dVar 2)) (dOp subD (dBlt lenD (daCons (dFld ["Stock"] "gone" (dVar 2)) daNil)) (dC (.int 1)))) (gT 2 (gsCons (gN 5) (gsCons (gN 6) gsNil))))
  (dIfS (dOrT (dB (dOp neD (dMeth "Stock" "come_back" 2 M_Stock_come_back (dVar 2) (daCons (dVar 5) daNil)) (dVar 6))) (dNotT (dB (dMeth "Stock" "look" 1 M_Stock_look (dVar 2) daNil))))
  (dRet (dC (.bl false)))
  dNext))
  dNext)
  (dSeq (dAsg (dCall 2 M__law_roll (daCons (dVar 0) (daCons (dC (.int 12)) daNil))) (gN 9))
  (dSeq (dAsg (dMeth "Stock" "worth" 1 M_Stock_worth (dVar 2) daNil) (gN 10))
  (dSeq (dAsg (dMeth "Stock" "lowered" 2 M_Stock_lowered (dVar 2) (daCons (dVar 9) daNil)) (gN 11))
  (dRet (dAndV (dOp eqD (dMeth "Stock" "worth" 1 M_Stock_worth (dVar 2) daNil) (dOp subD (dVar 10) (dVar 11))) (dAndV (dOp geD (dVar 11) (dC (.int 0))) (dAndV (dMeth "Stock" "look" 1 M_Stock_look (dVar 2) daNil) (dOp eqD (dLc (diSeq (dFld ["Stock"] "lots" (dVar 2))) (gN 12) (dB (dOp gtD (dOp ixD (dVar 12) (dC (.int 1))) (dOp mulD (dVar 9) (dOp ixD (dVar 12) (dC (.int 0)))))) (dVar 12) [12]) (dLst daNil)))))))))))))
def M__law_stock : DF := runD 15 (f__law_stock M_Stock_look M_Stock_worth M_Stock_lowered M__law_roll M_Stock_come_back M_Stock_there M_Stock_come M_Stock_go M__law_cut M_Stock___init__)
/-- how_many: slots 0 needs, 1 ask_price, 2 keep_price, 3 many, 4 best, 5 end, 6 start, 7 kept, 8 count, 9 price, 10 row, 11 k -/
def f_how_many : DS :=
  (dSeq (dAsg (dBlt lenD (daCons (dVar 0) daNil)) (gN 3))
  (dSeq (dAsg (dOp addD (dLst (daCons (dTup (daCons (dC (.int 0)) (daCons (dTup daNil) daNil))) daNil)) (dOp mulD2 (dLst (daCons (dC .non) daNil)) (dVar 3))) (gN 4))
  (dSeq (dFor (diRange2 (dC (.int 1)) (dOp addD (dVar 3) (dC (.int 1)))) (gN 5)
  (dFor (diRange1 (dVar 5)) (gN 6)
  (dSeq (dAsg (dSumX (diRange2 (dVar 6) (dVar 5)) (gN 11) dYes (dOp mulD (dOp ixD (dVar 0) (dVar 11)) (dOp subD (dVar 11) (dVar 6))) [11]) (gN 7))
  (dSeq (dAsg (dBlt sumLT (daCons (dSl (dVar 0) (dpSome (dVar 6)) (dpSome (dVar 5))) daNil)) (gN 8))
  (dSeq (dAsg (dOp addD (dOp addD (dOp ixD (dOp ixD (dVar 4) (dVar 6)) (dC (.int 0))) (dIf (dB (dOp gtD (dVar 8) (dC (.int 0)))) (dVar 1) (dC (.int 0)))) (dOp mulD (dVar 2) (dVar 7))) (gN 9))
  (dSeq (dAsg (dOp addD (dOp addD (dOp ixD (dOp ixD (dVar 4) (dVar 6)) (dC (.int 1))) (dTup (daCons (dVar 8) daNil))) (dOp mulD (dTup (daCons (dC (.int 0)) daNil)) (dOp subD (dOp subD (dVar 5) (dVar 6)) (dC (.int 1))))) (gN 10))
  (dIfS (dOrT (dB (dOp isND (dOp ixD (dVar 4) (dVar 5)) (dC .non))) (dB (dOp ltD (dVar 9) (dOp ixD (dOp ixD (dVar 4) (dVar 5)) (dC (.int 0))))))
  (dAsg (dTup (daCons (dVar 9) (daCons (dVar 10) daNil))) (gIx (dVar 4) (dVar 5)))
  dNext)))))))
  (dRet (dOp ixD (dVar 4) (dVar 3))))))
def M_how_many : DF := runD 12 f_how_many
/-- look_asked: slots 0 needs, 1 ask_price, 2 keep_price, 3 counts, 4 there, 5 price, 6 need, 7 count -/
def f_look_asked : DS :=
  (dSeq (dAsg (dTup (daCons (dC (.int 0)) (daCons (dC (.int 0)) daNil))) (gT 2 (gsCons (gN 4) (gsCons (gN 5) gsNil))))
  (dSeq (dFor (diZip (dVar 0) (dVar 3)) (gT 2 (gsCons (gN 6) (gsCons (gN 7) gsNil)))
  (dSeq (dAug 4 iaddD (dVar 7))
  (dSeq (dAug 5 iaddD (dIf (dB (dOp gtD (dVar 7) (dC (.int 0)))) (dVar 1) (dC (.int 0))))
  (dSeq (dIfS (dB (dOp ltD (dVar 4) (dVar 6)))
  (dRaiseI "Short" (dOp subD (dVar 6) (dVar 4)))
  dNext)
  (dSeq (dAug 4 isubD (dVar 6))
  (dAug 5 iaddD (dOp mulD (dVar 2) (dVar 4))))))))
  (dRet (dVar 5))))
def M_look_asked : DF := runD 8 f_look_asked
/-- when_to_ask: slots 0 uses, 1 there, 2 wait, 3 least, 4 here, 5 k, 6 ahead -/
def f_when_to_ask : DS :=
  (dSeq (dAsg (dVar 1) (gN 4))
  (dSeq (dFor (diRange1 (dBlt lenD (daCons (dVar 0) daNil))) (gN 5)
  (dSeq (dAsg (dBlt sumLT (daCons (dSl (dVar 0) (dpSome (dVar 5)) (dpSome (dOp addD (dVar 5) (dVar 2)))) daNil)) (gN 6))
  (dSeq (dIfS (dB (dOp ltD (dOp subD (dVar 4) (dVar 6)) (dVar 3)))
  (dRet (dVar 5))
  dNext)
  (dAug 4 isubD (dOp ixD (dVar 0) (dVar 5))))))
  (dRet (dC .non))))
def M_when_to_ask : DF := runD 7 f_when_to_ask
/-- _law_asked: slots 0 dice, 1 needs, 2 ask, 3 keep, 4 price, 5 counts, 6 best, 7 picks, 8 asks, 9 row, 10 k, 11 fine, 12 j, 13 much -/
def f__law_asked (M_when_to_ask : DF) (M_look_asked : DF) (M_how_many : DF) (M__law_roll : DF) : DS :=
  (dSeq (dAsg (dTup (daCons (dLc (diRange1 (dC (.int 4))) (gN 10) dYes (dCall 2 M__law_roll (daCons (dVar 0) (daCons (dC (.int 4)) daNil))) [10]) (daCons (dOp addD (dC (.int 1)) (dCall 2 M__law_roll (daCons (dVar 0) (daCons (dC (.int 6)) daNil)))) (daCons (dOp addD (dC (.int 1)) (dCall 2 M__law_roll (daCons (dVar 0) (daCons (dC (.int 2)) daNil)))) daNil)))) (gT 3 (gsCons (gN 1) (gsCons (gN 2) (gsCons (gN 3) gsNil)))))
  (dSeq (dAsg (dCall 3 M_how_many (daCons (dVar 1) (daCons (dVar 2) (daCons (dVar 3) daNil)))) (gT 2 (gsCons (gN 4) (gsCons (gN 5) gsNil))))
  (dSeq (dAsg (dC .non) (gN 6))
  (dSeq (dFor (diRange1 (dC (.int 16))) (gN 7)
  (dSeq (dAsg (dLst (daCons (dOp modD (dOp fdivD (dVar 7) (dC (.int 8))) (dC (.int 2))) (daCons (dOp modD (dOp fdivD (dVar 7) (dC (.int 4))) (dC (.int 2))) (daCons (dOp modD (dOp fdivD (dVar 7) (dC (.int 2))) (dC (.int 2))) (daCons (dOp modD (dVar 7) (dC (.int 2))) daNil))))) (gN 8))
  (dSeq (dPar2 9 10 (daCons (dLst (daCons (dC (.int 0)) (daCons (dC (.int 0)) (daCons (dC (.int 0)) (daCons (dC (.int 0)) daNil))))) (daCons (dC .non) daNil)))
  (dSeq (dAsg (dC (.bl true)) (gN 11))
  (dSeq (dFor (diRange1 (dC (.int 4))) (gN 12)
  (dSeq (dAsg (dIf (dB (dOp eqD (dOp ixD (dVar 8) (dVar 12)) (dC (.int 1)))) (dVar 12) (dVar 10)) (gN 10))
  (dIfS (dB (dOp isND (dVar 10) (dC .non)))
  (dAsg (dAndV (dVar 11) (dOp eqD (dOp ixD (dVar 1) (dVar 12)) (dC (.int 0)))) (gN 11))
  (dAsg (dOp addD (dOp ixD (dVar 9) (dVar 10)) (dOp ixD (dVar 1) (dVar 12))) (gIx (dVar 9) (dVar 10))))))
  (dIfS (dB (dVar 11))
  (dSeq (dAsg (dCall 4 M_look_asked (daCons (dVar 1) (daCons (dVar 2) (daCons (dVar 3) (daCons (dVar 9) daNil))))) (gN 13))
  (dAsg (dIf (dOrT (dB (dOp isND (dVar 6) (dC .non))) (dB (dOp ltD (dVar 13) (dVar 6)))) (dVar 13) (dVar 6)) (gN 6)))
  dNext))))))
  (dSeq (dIfS (dOrT (dB (dOp neD (dVar 4) (dVar 6))) (dOrT (dB (dOp neD (dCall 4 M_look_asked (daCons (dVar 1) (daCons (dVar 2) (daCons (dVar 3) (daCons (dVar 5) daNil))))) (dVar 4))) (dB (dOp neD (dBlt sumLT (daCons (dVar 5) daNil)) (dBlt sumLT (daCons (dVar 1) daNil))))))
  (dRet (dC (.bl false)))
  dNext)
  (dSeq (dIfS (dAndT (dB (dOp gtD (dBlt sumLT (daCons (dVar 1) daNil)) (dC (.int 0)))) (dB (dOp neD (dTold raisable tellers (dCall 4 M_look_asked (daCons (dVar 1) (daCons (dVar 2) (daCons (dVar 3) (daCons (dTup (daCons (dC (.int 0)) (daCons (dC (.int 0)) (daCons (dC (.int 0)) (daCons (dC (.int 0)) daNil))))) daNil)))))) (dC (.str "short")))))
  (dRet (dC (.bl false)))
  dNext)
  (dRet (dAndV (dOp eqD (dCall 4 M_when_to_ask (daCons (dTup (daCons (dC (.int 2)) (daCons (dC (.int 2)) (daCons (dC (.int 2)) (daCons (dC (.int 2)) daNil))))) (daCons (dC (.int 7)) (daCons (dC (.int 2)) (daCons (dC (.int 2)) daNil))))) (dC (.int 1))) (dOp isND (dCall 4 M_when_to_ask (daCons (dTup (daCons (dC (.int 0)) (daCons (dC (.int 0)) daNil))) (daCons (dC (.int 5)) (daCons (dC (.int 1)) (daCons (dC (.int 3)) daNil))))) (dC .non))))))))))
def M__law_asked : DF := runD 14 (f__law_asked M_when_to_ask M_look_asked M_how_many M__law_roll)
/-- times: slots 0 a, 1 b -/
def f_times (M_part : DF) : DS :=
  (dRet (dCall 2 M_part (daCons (dOp mulD (dOp ixD (dVar 0) (dC (.int 0))) (dOp ixD (dVar 1) (dC (.int 0)))) (daCons (dOp mulD (dOp ixD (dVar 0) (dC (.int 1))) (dOp ixD (dVar 1) (dC (.int 1)))) daNil))))
def M_times : DF := runD 2 (f_times M_part)
/-- falling: slots 0 cost, 1 rest, 2 years, 3 much, 4 found, 5 left, 6 k, 7 one -/
def f_falling (M_times : DF) (M_rounded : DF) (M_check_thing : DF) : DS :=
  (dSeq (dDrop (dCall 3 M_check_thing (daCons (dVar 0) (daCons (dVar 1) (daCons (dVar 2) daNil)))))
  (dSeq (dIfS (dNotT (dB (dChain ltD ltD (dC (.int 0)) (dOp ixD (dVar 3) (dC (.int 0))) (dOp ixD (dVar 3) (dC (.int 1))))))
  (dRaise "BadRule")
  dNext)
  (dSeq (dPar2 4 5 (daCons (dLst daNil) (daCons (dVar 0) daNil)))
  (dSeq (dFor (diRange1 (dVar 2)) (gN 6)
  (dSeq (dAsg (dIf (dB (dOp ltD (dVar 6) (dOp subD (dVar 2) (dC (.int 1))))) (dCall 2 M_rounded (daCons (dCall 2 M_times (daCons (dTup (daCons (dVar 5) (daCons (dC (.int 1)) daNil))) (daCons (dVar 3) daNil))) (daCons (dC (.str "half up")) daNil))) (dOp subD (dVar 5) (dVar 1))) (gN 7))
  (dSeq (dAsg (dBlt maxD (daCons (dC (.int 0)) (daCons (dBlt minD (daCons (dVar 7) (daCons (dOp subD (dVar 5) (dVar 1)) daNil))) daNil))) (gN 7))
  (dSeq (dDrop (dApp (dVar 4) (dVar 7)))
  (dAug 5 isubD (dVar 7))))))
  (dRet (dBlt tupleD (daCons (dVar 4) daNil)))))))
def M_falling : DF := runD 8 (f_falling M_times M_rounded M_check_thing)
/-- switched: slots 0 cost, 1 rest, 2 years, 3 much, 4 found, 5 left, 6 k, 7 more, 8 flat, 9 one -/
def f_switched (M_even : DF) (M_times : DF) (M_rounded : DF) (M_check_thing : DF) : DS :=
  (dSeq (dDrop (dCall 3 M_check_thing (daCons (dVar 0) (daCons (dVar 1) (daCons (dVar 2) daNil)))))
  (dSeq (dPar2 4 5 (daCons (dLst daNil) (daCons (dVar 0) daNil)))
  (dSeq (dFor (diRange1 (dVar 2)) (gN 6)
  (dSeq (dAsg (dCall 2 M_rounded (daCons (dCall 2 M_times (daCons (dTup (daCons (dVar 5) (daCons (dC (.int 1)) daNil))) (daCons (dVar 3) daNil))) (daCons (dC (.str "half up")) daNil))) (gN 7))
  (dSeq (dAsg (dIf (dB (dOp gtD (dVar 5) (dVar 1))) (dOp ixD (dCall 3 M_even (daCons (dVar 5) (daCons (dVar 1) (daCons (dOp subD (dVar 2) (dVar 6)) daNil)))) (dC (.int 0))) (dC (.int 0))) (gN 8))
  (dSeq (dIfS (dOrT (dB (dOp leD (dVar 7) (dVar 8))) (dB (dOp eqD (dVar 6) (dOp subD (dVar 2) (dC (.int 1))))))
  (dSeq (dDrop (dLM1 extD (dVar 4) (dIf (dB (dOp gtD (dVar 5) (dVar 1))) (dCall 3 M_even (daCons (dVar 5) (daCons (dVar 1) (daCons (dOp subD (dVar 2) (dVar 6)) daNil)))) (dOp mulD (dTup (daCons (dC (.int 0)) daNil)) (dOp subD (dVar 2) (dVar 6))))))
  dBrk)
  dNext)
  (dSeq (dAsg (dBlt minD (daCons (dVar 7) (daCons (dOp subD (dVar 5) (dVar 1)) daNil))) (gN 9))
  (dSeq (dDrop (dApp (dVar 4) (dVar 9)))
  (dAug 5 isubD (dVar 9))))))))
  (dRet (dBlt tupleD (daCons (dVar 4) daNil))))))
def M_switched : DF := runD 10 (f_switched M_even M_times M_rounded M_check_thing)
/-- by_digits: slots 0 cost, 1 rest, 2 years, 3 whole, 4 sums, 5 done, 6 found, 7 k, 8 there -/
def f_by_digits (M_check_thing : DF) : DS :=
  (dSeq (dDrop (dCall 3 M_check_thing (daCons (dVar 0) (daCons (dVar 1) (daCons (dVar 2) daNil)))))
  (dSeq (dPar2 3 4 (daCons (dOp subD (dVar 0) (dVar 1)) (daCons (dOp fdivD (dOp mulD (dVar 2) (dOp addD (dVar 2) (dC (.int 1)))) (dC (.int 2))) daNil)))
  (dSeq (dPar2 5 6 (daCons (dC (.int 0)) (daCons (dLst daNil) daNil)))
  (dSeq (dFor (diRange1 (dVar 2)) (gN 7)
  (dSeq (dAsg (dOp subD (dOp addD (dVar 5) (dVar 2)) (dVar 7)) (gN 8))
  (dSeq (dDrop (dApp (dVar 6) (dOp subD (dOp fdivD (dOp mulD (dVar 3) (dVar 8)) (dVar 4)) (dOp fdivD (dOp mulD (dVar 3) (dVar 5)) (dVar 4)))))
  (dAsg (dVar 8) (gN 5)))))
  (dRet (dBlt tupleD (daCons (dVar 6) daNil)))))))
def M_by_digits : DF := runD 9 (f_by_digits M_check_thing)
/-- by_use: slots 0 cost, 1 rest, 2 uses, 3 all_uses, 4 whole, 5 done, 6 found, 7 one, 8 there -/
def f_by_use : DS :=
  (dSeq (dIfS (dOrT (dB (dOp ltD (dVar 3) (dC (.int 1)))) (dOrT (dB (dAnyX (diSeq (dVar 2)) (gN 7) dYes (dOp ltD (dVar 7) (dC (.int 0))) [7])) (dNotT (dB (dChain leD leD (dC (.int 0)) (dVar 1) (dVar 0))))))
  (dRaise "BadRule")
  dNext)
  (dSeq (dPar3 4 5 6 (daCons (dOp subD (dVar 0) (dVar 1)) (daCons (dC (.int 0)) (daCons (dLst daNil) daNil))))
  (dSeq (dFor (diSeq (dVar 2)) (gN 7)
  (dSeq (dAsg (dBlt minD (daCons (dVar 3) (daCons (dOp addD (dVar 5) (dVar 7)) daNil))) (gN 8))
  (dSeq (dDrop (dApp (dVar 6) (dOp subD (dOp fdivD (dOp mulD (dVar 4) (dVar 8)) (dVar 3)) (dOp fdivD (dOp mulD (dVar 4) (dVar 5)) (dVar 3)))))
  (dAsg (dVar 8) (gN 5)))))
  (dRet (dBlt tupleD (daCons (dVar 6) daNil))))))
def M_by_use : DF := runD 9 f_by_use
/-- left_after: slots 0 cost, 1 wear, 2 found, 3 left, 4 one -/
def f_left_after : DS :=
  (dSeq (dPar2 2 3 (daCons (dLst daNil) (daCons (dVar 0) daNil)))
  (dSeq (dFor (diSeq (dVar 1)) (gN 4)
  (dSeq (dAug 3 isubD (dVar 4))
  (dDrop (dApp (dVar 2) (dVar 3)))))
  (dRet (dBlt tupleD (daCons (dVar 2) daNil)))))
def M_left_after : DF := runD 5 f_left_after
/-- when_worn: slots 0 cost, 1 rest, 2 wear, 3 k, 4 left -/
def f_when_worn (M_left_after : DF) : DS :=
  (dSeq (dFor (diEnum (dCall 2 M_left_after (daCons (dVar 0) (daCons (dVar 2) daNil)))) (gT 2 (gsCons (gN 3) (gsCons (gN 4) gsNil)))
  (dIfS (dB (dOp leD (dVar 4) (dVar 1)))
  (dRet (dVar 3))
  dNext))
  (dRet (dC .non)))
def M_when_worn : DF := runD 5 (f_when_worn M_left_after)
/-- sold: slots 0 cost, 1 wear, 2 years_used, 3 price, 4 left -/
def f_sold : DS :=
  (dSeq (dIfS (dNotT (dB (dChain leD leD (dC (.int 0)) (dVar 2) (dBlt lenD (daCons (dVar 1) daNil)))))
  (dRaise "BadRule")
  dNext)
  (dSeq (dAsg (dOp subD (dVar 0) (dBlt sumLT (daCons (dSl (dVar 1) dpNone (dpSome (dVar 2))) daNil))) (gN 4))
  (dRet (dTup (daCons (dVar 4) (daCons (dOp subD (dVar 3) (dVar 4)) daNil))))))
def M_sold : DF := runD 5 f_sold
/-- order: slots 0 a, 1 b, 2 gap -/
def f_order : DS :=
  (dSeq (dAsg (dOp subD (dOp mulD (dOp ixD (dVar 0) (dC (.int 0))) (dOp ixD (dVar 1) (dC (.int 1)))) (dOp mulD (dOp ixD (dVar 1) (dC (.int 0))) (dOp ixD (dVar 0) (dC (.int 1))))) (gN 2))
  (dRet (dOp subD (dOp gtD (dVar 2) (dC (.int 0))) (dOp ltD (dVar 2) (dC (.int 0))))))
def M_order : DF := runD 3 f_order
/-- near: slots 0 a, 1 count -/
def f_near (M_order : DF) : DS :=
  (dRet (dAndV (dOp leD (dCall 2 M_order (daCons (dVar 0) (daCons (dTup (daCons (dOp addD (dVar 1) (dC (.int 1))) (daCons (dC (.int 1)) daNil))) daNil))) (dC (.int 0))) (dOp geD (dCall 2 M_order (daCons (dVar 0) (daCons (dTup (daCons (dOp subD (dVar 1) (dC (.int 1))) (daCons (dC (.int 1)) daNil))) daNil))) (dC (.int 0)))))
def M_near : DF := runD 2 (f_near M_order)
/-- mean_wear: slots 0 cost, 1 rest, 2 years -/
def f_mean_wear (M_part : DF) (M_check_thing : DF) : DS :=
  (dSeq (dDrop (dCall 3 M_check_thing (daCons (dVar 0) (daCons (dVar 1) (daCons (dVar 2) daNil)))))
  (dRet (dCall 2 M_part (daCons (dOp subD (dVar 0) (dVar 1)) (daCons (dVar 2) daNil)))))
def M_mean_wear : DF := runD 3 (f_mean_wear M_part M_check_thing)
/-- law: slots 0 script, 1 dice, 2 cost, 3 years, 4 much, 5 rest, 6 flat, 7 rows, 8 row, 9 one, 10 k -/
def f_law (M__law_rounds : DF) (M_Stock___init__ : DF) (M_by_hand : DF) (M_falling : DF) (M_even : DF) (M__law_more : DF) (M_sold : DF) (M_when_worn : DF) (M_is_slower : DF) (M_mean_wear : DF) (M_near : DF) (M_left_after : DF) (M_by_use : DF) (M_by_digits : DF) (M_switched : DF) (M__law_roll : DF) (M__law_asked : DF) (M__law_stock : DF) : DS :=
  (dSeq (dFor (diSeq (dCall 2 M__law_rounds (daCons (dVar 0) (daCons (dC (.int 3)) daNil)))) (gN 1)
  (dSeq (dIfS (dOrT (dNotT (dB (dCall 1 M__law_stock (daCons (dVar 1) daNil)))) (dNotT (dB (dCall 1 M__law_asked (daCons (dVar 1) daNil)))))
  (dRet (dC (.bl false)))
  dNext)
  (dSeq (dAsg (dTup (daCons (dOp addD (dC (.int 20)) (dCall 2 M__law_roll (daCons (dVar 1) (daCons (dC (.int 400)) daNil)))) (daCons (dOp addD (dC (.int 1)) (dCall 2 M__law_roll (daCons (dVar 1) (daCons (dC (.int 6)) daNil)))) (daCons (dTup (daCons (dOp addD (dC (.int 1)) (dCall 2 M__law_roll (daCons (dVar 1) (daCons (dC (.int 8)) daNil)))) (daCons (dC (.int 10)) daNil))) daNil)))) (gT 3 (gsCons (gN 2) (gsCons (gN 3) (gsCons (gN 4) gsNil)))))
  (dSeq (dAsg (dCall 2 M__law_roll (daCons (dVar 1) (daCons (dC (.int 20)) daNil))) (gN 5))
  (dSeq (dAsg (dTup (daCons (dCall 3 M_even (daCons (dVar 2) (daCons (dVar 5) (daCons (dVar 3) daNil)))) (daCons (dLst (daCons (dCall 4 M_falling (daCons (dVar 2) (daCons (dVar 5) (daCons (dVar 3) (daCons (dVar 4) daNil))))) (daCons (dCall 4 M_switched (daCons (dVar 2) (daCons (dVar 5) (daCons (dVar 3) (daCons (dVar 4) daNil))))) (daCons (dCall 3 M_by_digits (daCons (dVar 2) (daCons (dVar 5) (daCons (dVar 3) daNil)))) (daCons (dCall 4 M_by_use (daCons (dVar 2) (daCons (dVar 5) (daCons (dLst (daCons (dC (.int 5)) (daCons (dC (.int 5)) (daCons (dC (.int 5)) daNil)))) (daCons (dC (.int 12)) daNil))))) daNil))))) daNil))) (gT 2 (gsCons (gN 6) (gsCons (gN 7) gsNil))))
  (dSeq (dFor (diSeq (dOp addD (dLst (daCons (dVar 6) daNil)) (dVar 7))) (gN 8)
  (dIfS (dOrT (dB (dOp neD (dBlt sumLT (daCons (dVar 8) daNil)) (dOp subD (dVar 2) (dVar 5)))) (dOrT (dB (dOp ltD (dBlt minT (daCons (dVar 8) daNil)) (dC (.int 0)))) (dB (dOp neD (dOp ixD (dCall 2 M_left_after (daCons (dVar 2) (daCons (dVar 8) daNil))) (dOp subD (dBlt lenD (daCons (dVar 8) daNil)) (dC (.int 1)))) (dVar 5)))))
  (dRet (dC (.bl false)))
  dNext))
  (dSeq (dIfS (dB (dOp gtD (dOp subD (dBlt maxT (daCons (dVar 6) daNil)) (dBlt minT (daCons (dVar 6) daNil))) (dC (.int 1))))
  (dRet (dC (.bl false)))
  dNext)
  (dSeq (dIfS (dB (dOp neD (dLc (diSeq (dVar 6)) (gN 9) (dNotT (dB (dCall 2 M_near (daCons (dCall 3 M_mean_wear (daCons (dVar 2) (daCons (dVar 5) (daCons (dVar 3) daNil)))) (daCons (dVar 9) daNil))))) (dVar 9) [9]) (dLst daNil)))
  (dRet (dC (.bl false)))
  dNext)
  (dSeq (dIfS (dNotT (dB (dCall 2 M_is_slower (daCons (dVar 6) (daCons (dOp ixD (dVar 7) (dC (.int 2))) daNil)))))
  (dRet (dC (.bl false)))
  dNext)
  (dSeq (dIfS (dB (dOp neD (dLc (diRange2 (dC (.int 1)) (dBlt lenD (daCons (dOp ixD (dVar 7) (dC (.int 1))) daNil))) (gN 10) (dB (dOp gtD (dOp ixD (dOp ixD (dVar 7) (dC (.int 1))) (dVar 10)) (dOp addD (dOp ixD (dOp ixD (dVar 7) (dC (.int 1))) (dOp subD (dVar 10) (dC (.int 1)))) (dC (.int 1))))) (dVar 10) [10]) (dLst daNil)))
  (dRet (dC (.bl false)))
  dNext)
  (dSeq (dIfS (dOrT (dB (dOp isND (dCall 3 M_when_worn (daCons (dVar 2) (daCons (dVar 5) (daCons (dVar 6) daNil)))) (dC .non))) (dB (dOp neD (dCall 4 M_sold (daCons (dVar 2) (daCons (dVar 6) (daCons (dC (.int 0)) (daCons (dOp addD (dVar 2) (dC (.int 3))) daNil))))) (dTup (daCons (dVar 2) (daCons (dC (.int 3)) daNil))))))
  (dRet (dC (.bl false)))
  dNext)
  (dSeq (dIfS (dNotT (dB (dCall 5 M__law_more (daCons (dVar 1) (daCons (dVar 2) (daCons (dVar 5) (daCons (dVar 3) (daCons (dVar 6) daNil))))))))
  (dRet (dC (.bl false)))
  dNext)
  (dSeq (dIfS (dB (dOp neD (dTold raisable tellers (dCall 3 M_even (daCons (dC (.int 5)) (daCons (dC (.int 9)) (daCons (dC (.int 2)) daNil))))) (dC (.str "rule"))))
  (dRet (dC (.bl false)))
  dNext)
  (dSeq (dIfS (dB (dOp neD (dTold raisable tellers (dCall 4 M_falling (daCons (dC (.int 9)) (daCons (dC (.int 0)) (daCons (dC (.int 2)) (daCons (dTup (daCons (dC (.int 1)) (daCons (dC (.int 1)) daNil))) daNil)))))) (dC (.str "rule"))))
  (dRet (dC (.bl false)))
  dNext)
  (dSeq (dIfS (dB (dOp neD (dTold raisable tellers (dCall 2 M_by_hand (daCons (dTup (daCons (dTup (daCons (dC (.int 3)) (daCons (dC (.int 10)) daNil))) daNil)) (daCons (dTup (daCons (dTup (daCons (dC (.int 0)) (daCons (dC (.int 4)) daNil))) daNil)) daNil)))) (dC (.str "short"))))
  (dRet (dC (.bl false)))
  dNext)
  (dIfS (dB (dOp neD (dTold raisable tellers (dMake "Stock" 2 M_Stock___init__ (daCons (dC (.str "none")) daNil))) (dC (.str "rule"))))
  (dRet (dC (.bl false)))
  dNext))))))))))))))))
  (dRet (dC (.bl true))))
def M_law : DF := runD 11 (f_law M__law_rounds M_Stock___init__ M_by_hand M_falling M_even M__law_more M_sold M_when_worn M_is_slower M_mean_wear M_near M_left_after M_by_use M_by_digits M_switched M__law_roll M__law_asked M__law_stock)
end Pr
set_option Elab.async false
set_option linter.all false
set_option maxRecDepth 100000
set_option maxHeartbeats 4000000
namespace Pr
open PySem PySem.Spec PyProof.Rows L2 DL
def GK (K : PySem.W.Frag) : Gx := ⟨fun c => He.ga K (Str.ofString c), [((He.cT K ("Stock", some "there")).2, (("Stock.there" : Str) ++ (".<locals>." : Str)) ++ ("<genexpr>" : Str)), ((He.cT K ("Stock", some "worth")).2, (("Stock.worth" : Str) ++ (".<locals>." : Str)) ++ ("<genexpr>" : Str)), ((He.cT K ("Stock", some "look")).2, (("Stock.look" : Str) ++ (".<locals>." : Str)) ++ ("<genexpr>" : Str)), ((He.cT K ("Stock", some "lowered")).2, (("Stock.lowered" : Str) ++ (".<locals>." : Str)) ++ ("<genexpr>" : Str)), ((He.cT K ("how_many", none)).2, (("how_many" : Str) ++ (".<locals>." : Str)) ++ ("<genexpr>" : Str)), ((He.cT K ("by_use", none)).2, (("by_use" : Str) ++ (".<locals>." : Str)) ++ ("<genexpr>" : Str)), ((He.cT K ("with_parts", none)).2, (("with_parts" : Str) ++ (".<locals>." : Str)) ++ ("<genexpr>" : Str)), ((He.cT K ("is_slower", none)).2, (("is_slower" : Str) ++ (".<locals>." : Str)) ++ ("<genexpr>" : Str)), ((He.cT K ("_law_stock", none)).2, (("_law_stock" : Str) ++ (".<locals>." : Str)) ++ ("<lambda>" : Str)), ((He.cT K ("_law_asked", none)).2, (("_law_asked" : Str) ++ (".<locals>." : Str)) ++ ("<lambda>" : Str)), ((He.cT K ("law", none)).2, (("law" : Str) ++ (".<locals>." : Str)) ++ ("<lambda>" : Str))]⟩
theorem code_is {K : PySem.W.Frag} {p : Str × Option Str} {cdv : Value} {qual : Str} (hl : ∃ (oc : Value) (od : Option Addr) (osl : Array (Option Value)) (fd : FuncData), K.lookup (He.fAd K p) = some ⟨oc, od, .func fd, osl⟩ ∧ fd.code = cdv) (hcd : PySem.W.codeIn K cdv qual = true) : cdv = .ref (He.cT K p).1 := by
  obtain ⟨oc, od, osl, fd, lk, e⟩ := hl
  obtain ⟨x, ex⟩ := He.codeIn_ref hcd
  have z := He.codeOf_eq lk (e.trans ex)
  rw [ex]
  exact congrArg Value.ref z.symm
theorem sc__law_told : FnScope ["what"] ["what"] (defScope s__law_told) := ⟨rfl, rfl, rfl, by decide +kernel, rfl, by decide +kernel, by decide +kernel⟩
abbrev N__law_dice : List Str := ["cell"]
theorem sc__law_dice : FnScope N__law_dice ["cell"] (defScope s__law_dice) := ⟨rfl, rfl, rfl, by decide +kernel, rfl, by decide +kernel, by decide +kernel⟩
abbrev N__law_rounds : List Str := ["script", "most", "cells", "cell"]
theorem sc__law_rounds : FnScope N__law_rounds ["script", "most"] (defScope s__law_rounds) := ⟨rfl, rfl, rfl, by decide +kernel, rfl, by decide +kernel, by decide +kernel⟩
abbrev N__law_roll : List Str := ["dice", "many", "found"]
theorem sc__law_roll : FnScope N__law_roll ["dice", "many"] (defScope s__law_roll) := ⟨rfl, rfl, rfl, by decide +kernel, rfl, by decide +kernel, by decide +kernel⟩
abbrev N_check_thing : List Str := ["cost", "rest", "years"]
theorem sc_check_thing : FnScope N_check_thing ["cost", "rest", "years"] (defScope s_check_thing) := ⟨rfl, rfl, rfl, by decide +kernel, rfl, by decide +kernel, by decide +kernel⟩
abbrev N_even : List Str := ["cost", "rest", "years", "whole", "k"]
theorem sc_even : FnScope N_even ["cost", "rest", "years"] (defScope s_even) := ⟨rfl, rfl, rfl, by decide +kernel, rfl, by decide +kernel, by decide +kernel⟩
abbrev N_is_slower : List Str := ["one", "other", "k"]
theorem sc_is_slower : FnScope N_is_slower ["one", "other"] (defScope s_is_slower) := ⟨rfl, rfl, rfl, by decide +kernel, rfl, by decide +kernel, by decide +kernel⟩
abbrev N_with_parts : List Str := ["pieces", "rows", "many", "cost", "rest", "years", "k", "row"]
theorem sc_with_parts : FnScope N_with_parts ["pieces"] (defScope s_with_parts) := ⟨rfl, rfl, rfl, by decide +kernel, rfl, by decide +kernel, by decide +kernel⟩
abbrev N_tested : List Str := ["left", "worth"]
theorem sc_tested : FnScope N_tested ["left", "worth"] (defScope s_tested) := ⟨rfl, rfl, rfl, by decide +kernel, rfl, by decide +kernel, by decide +kernel⟩
abbrev N_cheaper : List Str := ["years", "keeps", "price", "saves", "k"]
theorem sc_cheaper : FnScope N_cheaper ["years", "keeps", "price", "saves"] (defScope s_cheaper) := ⟨rfl, rfl, rfl, by decide +kernel, rfl, by decide +kernel, by decide +kernel⟩
abbrev N_rounded : List Str := ["a", "rule", "sign", "whole", "rest", "up"]
theorem sc_rounded : FnScope N_rounded ["a", "rule"] (defScope s_rounded) := ⟨rfl, rfl, rfl, by decide +kernel, rfl, by decide +kernel, by decide +kernel⟩
abbrev N_part : List Str := ["top", "bottom", "a", "b", "sign"]
theorem sc_part : FnScope N_part ["top", "bottom"] (defScope s_part) := ⟨rfl, rfl, rfl, by decide +kernel, rfl, by decide +kernel, by decide +kernel⟩
abbrev N_by_hand : List Str := ["lots", "picks", "left", "worth", "k", "count", "cut", "lot"]
theorem sc_by_hand : FnScope N_by_hand ["lots", "picks"] (defScope s_by_hand) := ⟨rfl, rfl, rfl, by decide +kernel, rfl, by decide +kernel, by decide +kernel⟩
abbrev N_within_year : List Str := ["wear", "months", "found", "carried", "one", "first"]
theorem sc_within_year : FnScope N_within_year ["wear", "months"] (defScope s_within_year) := ⟨rfl, rfl, rfl, by decide +kernel, rfl, by decide +kernel, by decide +kernel⟩
abbrev N__law_more : List Str := ["dice", "cost", "rest", "years", "flat", "parts_there", "keeps", "due", "k"]
theorem sc__law_more : FnScope N__law_more ["dice", "cost", "rest", "years", "flat"] (defScope s__law_more) := ⟨rfl, rfl, rfl, by decide +kernel, rfl, by decide +kernel, by decide +kernel⟩
abbrev N_Stock_worth : List Str := ["self", "many", "much"]
theorem sc_Stock_worth : FnScope N_Stock_worth ["self"] (defScope s_Stock_worth) := ⟨rfl, rfl, rfl, by decide +kernel, rfl, by decide +kernel, by decide +kernel⟩
abbrev N_Stock_lowered : List Str := ["self", "price", "found", "many", "much", "off"]
theorem sc_Stock_lowered : FnScope N_Stock_lowered ["self", "price"] (defScope s_Stock_lowered) := ⟨rfl, rfl, rfl, by decide +kernel, rfl, by decide +kernel, by decide +kernel⟩
abbrev N_Stock___init__ : List Str := ["self", "way"]
theorem sc_Stock___init__ : FnScope N_Stock___init__ ["self", "way"] (defScope s_Stock___init__) := ⟨rfl, rfl, rfl, by decide +kernel, rfl, by decide +kernel, by decide +kernel⟩
abbrev N_Stock_there : List Str := ["self", "many", "much"]
theorem sc_Stock_there : FnScope N_Stock_there ["self"] (defScope s_Stock_there) := ⟨rfl, rfl, rfl, by decide +kernel, rfl, by decide +kernel, by decide +kernel⟩
abbrev N_Stock_look : List Str := ["self", "came", "went", "many", "much"]
theorem sc_Stock_look : FnScope N_Stock_look ["self"] (defScope s_Stock_look) := ⟨rfl, rfl, rfl, by decide +kernel, rfl, by decide +kernel, by decide +kernel⟩
abbrev N_Stock_come : List Str := ["self", "count", "worth"]
theorem sc_Stock_come : FnScope N_Stock_come ["self", "count", "worth"] (defScope s_Stock_come) := ⟨rfl, rfl, rfl, by decide +kernel, rfl, by decide +kernel, by decide +kernel⟩
abbrev N__law_cut : List Str := ["lots", "count", "is_last", "left", "much_there", "many", "much", "here", "cut", "rest"]
theorem sc__law_cut : FnScope N__law_cut ["lots", "count", "is_last"] (defScope s__law_cut) := ⟨rfl, rfl, rfl, by decide +kernel, rfl, by decide +kernel, by decide +kernel⟩
abbrev N_Stock_come_back : List Str := ["self", "count", "many", "much", "cut"]
theorem sc_Stock_come_back : FnScope N_Stock_come_back ["self", "count"] (defScope s_Stock_come_back) := ⟨rfl, rfl, rfl, by decide +kernel, rfl, by decide +kernel, by decide +kernel⟩
abbrev N_Stock_go : List Str := ["self", "count", "there", "left", "worth", "k", "many", "much", "cut"]
theorem sc_Stock_go : FnScope N_Stock_go ["self", "count"] (defScope s_Stock_go) := ⟨rfl, rfl, rfl, by decide +kernel, rfl, by decide +kernel, by decide +kernel⟩
abbrev N__law_stock : List Str := ["dice", "way", "stock", "lots", "turn", "count", "much_there", "there", "due", "price", "before", "off", "lot", "many", "much"]
theorem sc__law_stock : FnScope N__law_stock ["dice"] (defScope s__law_stock) := ⟨rfl, rfl, rfl, by decide +kernel, rfl, by decide +kernel, by decide +kernel⟩
abbrev N_how_many : List Str := ["needs", "ask_price", "keep_price", "many", "best", "end", "start", "kept", "count", "price", "row", "k"]
theorem sc_how_many : FnScope N_how_many ["needs", "ask_price", "keep_price"] (defScope s_how_many) := ⟨rfl, rfl, rfl, by decide +kernel, rfl, by decide +kernel, by decide +kernel⟩
abbrev N_look_asked : List Str := ["needs", "ask_price", "keep_price", "counts", "there", "price", "need", "count"]
theorem sc_look_asked : FnScope N_look_asked ["needs", "ask_price", "keep_price", "counts"] (defScope s_look_asked) := ⟨rfl, rfl, rfl, by decide +kernel, rfl, by decide +kernel, by decide +kernel⟩
abbrev N_when_to_ask : List Str := ["uses", "there", "wait", "least", "here", "k", "ahead"]
theorem sc_when_to_ask : FnScope N_when_to_ask ["uses", "there", "wait", "least"] (defScope s_when_to_ask) := ⟨rfl, rfl, rfl, by decide +kernel, rfl, by decide +kernel, by decide +kernel⟩
abbrev N__law_asked : List Str := ["dice", "needs", "ask", "keep", "price", "counts", "best", "picks", "asks", "row", "k", "fine", "j", "much"]
theorem sc__law_asked : FnScope N__law_asked ["dice"] (defScope s__law_asked) := ⟨rfl, rfl, rfl, by decide +kernel, rfl, by decide +kernel, by decide +kernel⟩
abbrev N_times : List Str := ["a", "b"]
theorem sc_times : FnScope N_times ["a", "b"] (defScope s_times) := ⟨rfl, rfl, rfl, by decide +kernel, rfl, by decide +kernel, by decide +kernel⟩
abbrev N_falling : List Str := ["cost", "rest", "years", "much", "found", "left", "k", "one"]
theorem sc_falling : FnScope N_falling ["cost", "rest", "years", "much"] (defScope s_falling) := ⟨rfl, rfl, rfl, by decide +kernel, rfl, by decide +kernel, by decide +kernel⟩
abbrev N_switched : List Str := ["cost", "rest", "years", "much", "found", "left", "k", "more", "flat", "one"]
theorem sc_switched : FnScope N_switched ["cost", "rest", "years", "much"] (defScope s_switched) := ⟨rfl, rfl, rfl, by decide +kernel, rfl, by decide +kernel, by decide +kernel⟩
abbrev N_by_digits : List Str := ["cost", "rest", "years", "whole", "sums", "done", "found", "k", "there"]
theorem sc_by_digits : FnScope N_by_digits ["cost", "rest", "years"] (defScope s_by_digits) := ⟨rfl, rfl, rfl, by decide +kernel, rfl, by decide +kernel, by decide +kernel⟩
abbrev N_by_use : List Str := ["cost", "rest", "uses", "all_uses", "whole", "done", "found", "one", "there"]
theorem sc_by_use : FnScope N_by_use ["cost", "rest", "uses", "all_uses"] (defScope s_by_use) := ⟨rfl, rfl, rfl, by decide +kernel, rfl, by decide +kernel, by decide +kernel⟩
abbrev N_left_after : List Str := ["cost", "wear", "found", "left", "one"]
theorem sc_left_after : FnScope N_left_after ["cost", "wear"] (defScope s_left_after) := ⟨rfl, rfl, rfl, by decide +kernel, rfl, by decide +kernel, by decide +kernel⟩
abbrev N_when_worn : List Str := ["cost", "rest", "wear", "k", "left"]
theorem sc_when_worn : FnScope N_when_worn ["cost", "rest", "wear"] (defScope s_when_worn) := ⟨rfl, rfl, rfl, by decide +kernel, rfl, by decide +kernel, by decide +kernel⟩
abbrev N_sold : List Str := ["cost", "wear", "years_used", "price", "left"]
theorem sc_sold : FnScope N_sold ["cost", "wear", "years_used", "price"] (defScope s_sold) := ⟨rfl, rfl, rfl, by decide +kernel, rfl, by decide +kernel, by decide +kernel⟩
abbrev N_order : List Str := ["a", "b", "gap"]
theorem sc_order : FnScope N_order ["a", "b"] (defScope s_order) := ⟨rfl, rfl, rfl, by decide +kernel, rfl, by decide +kernel, by decide +kernel⟩
abbrev N_near : List Str := ["a", "count"]
theorem sc_near : FnScope N_near ["a", "count"] (defScope s_near) := ⟨rfl, rfl, rfl, by decide +kernel, rfl, by decide +kernel, by decide +kernel⟩
abbrev N_mean_wear : List Str := ["cost", "rest", "years"]
theorem sc_mean_wear : FnScope N_mean_wear ["cost", "rest", "years"] (defScope s_mean_wear) := ⟨rfl, rfl, rfl, by decide +kernel, rfl, by decide +kernel, by decide +kernel⟩
abbrev N_law : List Str := ["script", "dice", "cost", "years", "much", "rest", "flat", "rows", "row", "one", "k"]
theorem sc_law : FnScope N_law ["script"] (defScope s_law) := ⟨rfl, rfl, rfl, by decide +kernel, rfl, by decide +kernel, by decide +kernel⟩
section
variable {P : Program} {w : World} {K : PySem.W.Frag} {mg : Str → Option Value} {base h0 : Heap} (KX : K.In h0) (Gn : h0.Ns mainGlobals mg) (c : He.SaysD fa fn K)
include KX Gn c
theorem g_WageFault : mg "WageFault" = some (.ref ((GK K).cA "WageFault")) := He.glo_ok KX Gn (c.fact 0 (f := .glo "WageFault") rfl)
theorem g_BadMoney : mg "BadMoney" = some (.ref ((GK K).cA "BadMoney")) := He.glo_ok KX Gn (c.fact 1 (f := .glo "BadMoney") rfl)
theorem g_BadDay : mg "BadDay" = some (.ref ((GK K).cA "BadDay")) := He.glo_ok KX Gn (c.fact 2 (f := .glo "BadDay") rfl)
theorem g_BadRule : mg "BadRule" = some (.ref ((GK K).cA "BadRule")) := He.glo_ok KX Gn (c.fact 3 (f := .glo "BadRule") rfl)
theorem g_Unbalanced : mg "Unbalanced" = some (.ref ((GK K).cA "Unbalanced")) := He.glo_ok KX Gn (c.fact 4 (f := .glo "Unbalanced") rfl)
theorem g_Shut : mg "Shut" = some (.ref ((GK K).cA "Shut")) := He.glo_ok KX Gn (c.fact 5 (f := .glo "Shut") rfl)
theorem g_Short : mg "Short" = some (.ref ((GK K).cA "Short")) := He.glo_ok KX Gn (c.fact 6 (f := .glo "Short") rfl)
theorem g_BadText : mg "BadText" = some (.ref ((GK K).cA "BadText")) := He.glo_ok KX Gn (c.fact 7 (f := .glo "BadText") rfl)
theorem g_NoAnswer : mg "NoAnswer" = some (.ref ((GK K).cA "NoAnswer")) := He.glo_ok KX Gn (c.fact 8 (f := .glo "NoAnswer") rfl)
theorem g_part : mg "part" = some (.ref ((GK K).cA "part")) := He.glo_ok KX Gn (c.fact 9 (f := .glo "part") rfl)
theorem g_times : mg "times" = some (.ref ((GK K).cA "times")) := He.glo_ok KX Gn (c.fact 10 (f := .glo "times") rfl)
theorem g_order : mg "order" = some (.ref ((GK K).cA "order")) := He.glo_ok KX Gn (c.fact 11 (f := .glo "order") rfl)
theorem g_rounded : mg "rounded" = some (.ref ((GK K).cA "rounded")) := He.glo_ok KX Gn (c.fact 12 (f := .glo "rounded") rfl)
theorem g_Stock : mg "Stock" = some (.ref ((GK K).cA "Stock")) := He.glo_ok KX Gn (c.fact 13 (f := .glo "Stock") rfl)
theorem g_by_hand : mg "by_hand" = some (.ref ((GK K).cA "by_hand")) := He.glo_ok KX Gn (c.fact 14 (f := .glo "by_hand") rfl)
theorem g_when_to_ask : mg "when_to_ask" = some (.ref ((GK K).cA "when_to_ask")) := He.glo_ok KX Gn (c.fact 15 (f := .glo "when_to_ask") rfl)
theorem g_how_many : mg "how_many" = some (.ref ((GK K).cA "how_many")) := He.glo_ok KX Gn (c.fact 16 (f := .glo "how_many") rfl)
theorem g_look_asked : mg "look_asked" = some (.ref ((GK K).cA "look_asked")) := He.glo_ok KX Gn (c.fact 17 (f := .glo "look_asked") rfl)
theorem g_check_thing : mg "check_thing" = some (.ref ((GK K).cA "check_thing")) := He.glo_ok KX Gn (c.fact 18 (f := .glo "check_thing") rfl)
theorem g_even : mg "even" = some (.ref ((GK K).cA "even")) := He.glo_ok KX Gn (c.fact 19 (f := .glo "even") rfl)
theorem g_falling : mg "falling" = some (.ref ((GK K).cA "falling")) := He.glo_ok KX Gn (c.fact 20 (f := .glo "falling") rfl)
theorem g_switched : mg "switched" = some (.ref ((GK K).cA "switched")) := He.glo_ok KX Gn (c.fact 21 (f := .glo "switched") rfl)
theorem g_by_digits : mg "by_digits" = some (.ref ((GK K).cA "by_digits")) := He.glo_ok KX Gn (c.fact 22 (f := .glo "by_digits") rfl)
theorem g_by_use : mg "by_use" = some (.ref ((GK K).cA "by_use")) := He.glo_ok KX Gn (c.fact 23 (f := .glo "by_use") rfl)
theorem g_left_after : mg "left_after" = some (.ref ((GK K).cA "left_after")) := He.glo_ok KX Gn (c.fact 24 (f := .glo "left_after") rfl)
theorem g_sold : mg "sold" = some (.ref ((GK K).cA "sold")) := He.glo_ok KX Gn (c.fact 25 (f := .glo "sold") rfl)
theorem g_with_parts : mg "with_parts" = some (.ref ((GK K).cA "with_parts")) := He.glo_ok KX Gn (c.fact 26 (f := .glo "with_parts") rfl)
theorem g_within_year : mg "within_year" = some (.ref ((GK K).cA "within_year")) := He.glo_ok KX Gn (c.fact 27 (f := .glo "within_year") rfl)
theorem g_when_worn : mg "when_worn" = some (.ref ((GK K).cA "when_worn")) := He.glo_ok KX Gn (c.fact 28 (f := .glo "when_worn") rfl)
theorem g_tested : mg "tested" = some (.ref ((GK K).cA "tested")) := He.glo_ok KX Gn (c.fact 29 (f := .glo "tested") rfl)
theorem g_cheaper : mg "cheaper" = some (.ref ((GK K).cA "cheaper")) := He.glo_ok KX Gn (c.fact 30 (f := .glo "cheaper") rfl)
theorem g_is_slower : mg "is_slower" = some (.ref ((GK K).cA "is_slower")) := He.glo_ok KX Gn (c.fact 31 (f := .glo "is_slower") rfl)
theorem g_mean_wear : mg "mean_wear" = some (.ref ((GK K).cA "mean_wear")) := He.glo_ok KX Gn (c.fact 32 (f := .glo "mean_wear") rfl)
theorem g_near : mg "near" = some (.ref ((GK K).cA "near")) := He.glo_ok KX Gn (c.fact 33 (f := .glo "near") rfl)
theorem g__law_dice : mg "_law_dice" = some (.ref ((GK K).cA "_law_dice")) := He.glo_ok KX Gn (c.fact 34 (f := .glo "_law_dice") rfl)
theorem g__law_roll : mg "_law_roll" = some (.ref ((GK K).cA "_law_roll")) := He.glo_ok KX Gn (c.fact 35 (f := .glo "_law_roll") rfl)
theorem g__law_rounds : mg "_law_rounds" = some (.ref ((GK K).cA "_law_rounds")) := He.glo_ok KX Gn (c.fact 36 (f := .glo "_law_rounds") rfl)
theorem g__law_told : mg "_law_told" = some (.ref ((GK K).cA "_law_told")) := He.glo_ok KX Gn (c.fact 37 (f := .glo "_law_told") rfl)
theorem g__law_cut : mg "_law_cut" = some (.ref ((GK K).cA "_law_cut")) := He.glo_ok KX Gn (c.fact 38 (f := .glo "_law_cut") rfl)
theorem g__law_stock : mg "_law_stock" = some (.ref ((GK K).cA "_law_stock")) := He.glo_ok KX Gn (c.fact 39 (f := .glo "_law_stock") rfl)
theorem g__law_asked : mg "_law_asked" = some (.ref ((GK K).cA "_law_asked")) := He.glo_ok KX Gn (c.fact 40 (f := .glo "_law_asked") rfl)
theorem g__law_more : mg "_law_more" = some (.ref ((GK K).cA "_law_more")) := He.glo_ok KX Gn (c.fact 41 (f := .glo "_law_more") rfl)
theorem g_law : mg "law" = some (.ref ((GK K).cA "law")) := He.glo_ok KX Gn (c.fact 42 (f := .glo "law") rfl)
theorem g_RULES : mg "RULES" = some (.ref ((GK K).cA "RULES")) := He.glo_ok KX Gn (c.fact 43 (f := .glo "RULES") rfl)
theorem z_abs : mg "abs" = none := He.free_ok KX Gn (c.fact 44 (f := .free "abs") rfl)
theorem z_all : mg "all" = none := He.free_ok KX Gn (c.fact 45 (f := .free "all") rfl)
theorem z_any : mg "any" = none := He.free_ok KX Gn (c.fact 46 (f := .free "any") rfl)
theorem z_enumerate : mg "enumerate" = none := He.free_ok KX Gn (c.fact 47 (f := .free "enumerate") rfl)
theorem z_int : mg "int" = none := He.free_ok KX Gn (c.fact 48 (f := .free "int") rfl)
theorem z_len : mg "len" = none := He.free_ok KX Gn (c.fact 49 (f := .free "len") rfl)
theorem z_list : mg "list" = none := He.free_ok KX Gn (c.fact 50 (f := .free "list") rfl)
theorem z_max : mg "max" = none := He.free_ok KX Gn (c.fact 51 (f := .free "max") rfl)
theorem z_min : mg "min" = none := He.free_ok KX Gn (c.fact 52 (f := .free "min") rfl)
theorem z_range : mg "range" = none := He.free_ok KX Gn (c.fact 53 (f := .free "range") rfl)
theorem z_sum : mg "sum" = none := He.free_ok KX Gn (c.fact 54 (f := .free "sum") rfl)
theorem z_super : mg "super" = none := He.free_ok KX Gn (c.fact 55 (f := .free "super") rfl)
theorem z_tuple : mg "tuple" = none := He.free_ok KX Gn (c.fact 56 (f := .free "tuple") rfl)
theorem z_zip : mg "zip" = none := He.free_ok KX Gn (c.fact 57 (f := .free "zip") rfl)
theorem cl_Stock : Cls K ((GK K).cA "Stock") := He.cls_ok (c.fact 58 (f := .cls "Stock") rfl)
theorem mk_Stock : Mk K ((GK K).cA "Stock") (He.fAd K ("Stock", some "__init__")) := He.mkr_ok (c.fact 59 (f := .mkr "Stock") rfl)
theorem mt_Stock_come : Meth K ((GK K).cA "Stock") "come" (He.fAd K ("Stock", some "come")) := He.meth_ok (c.fact 64 (f := .meth "Stock" "come") rfl)
theorem mt_Stock_go : Meth K ((GK K).cA "Stock") "go" (He.fAd K ("Stock", some "go")) := He.meth_ok (c.fact 65 (f := .meth "Stock" "go") rfl)
theorem mt_Stock_there : Meth K ((GK K).cA "Stock") "there" (He.fAd K ("Stock", some "there")) := He.meth_ok (c.fact 66 (f := .meth "Stock" "there") rfl)
theorem mt_Stock_worth : Meth K ((GK K).cA "Stock") "worth" (He.fAd K ("Stock", some "worth")) := He.meth_ok (c.fact 67 (f := .meth "Stock" "worth") rfl)
theorem mt_Stock_come_back : Meth K ((GK K).cA "Stock") "come_back" (He.fAd K ("Stock", some "come_back")) := He.meth_ok (c.fact 68 (f := .meth "Stock" "come_back") rfl)
theorem mt_Stock_look : Meth K ((GK K).cA "Stock") "look" (He.fAd K ("Stock", some "look")) := He.meth_ok (c.fact 69 (f := .meth "Stock" "look") rfl)
theorem mt_Stock_lowered : Meth K ((GK K).cA "Stock") "lowered" (He.fAd K ("Stock", some "lowered")) := He.meth_ok (c.fact 70 (f := .meth "Stock" "lowered") rfl)
theorem fl_way : ∀ x ∈ ["Stock"], Cls K ((GK K).cA x) ∧ NoAttr K ((GK K).cA x) "way" := by
  refine List.forall_mem_cons.mpr ⟨⟨cl_Stock KX Gn c, He.noat_ok (c.fact 60 (f := .noat "Stock" "way") rfl)⟩, (fun _ h => nomatch h)⟩
theorem fl_lots : ∀ x ∈ ["Stock"], Cls K ((GK K).cA x) ∧ NoAttr K ((GK K).cA x) "lots" := by
  refine List.forall_mem_cons.mpr ⟨⟨cl_Stock KX Gn c, He.noat_ok (c.fact 61 (f := .noat "Stock" "lots") rfl)⟩, (fun _ h => nomatch h)⟩
theorem fl_gone : ∀ x ∈ ["Stock"], Cls K ((GK K).cA x) ∧ NoAttr K ((GK K).cA x) "gone" := by
  refine List.forall_mem_cons.mpr ⟨⟨cl_Stock KX Gn c, He.noat_ok (c.fact 62 (f := .noat "Stock" "gone") rfl)⟩, (fun _ h => nomatch h)⟩
theorem fl_came : ∀ x ∈ ["Stock"], Cls K ((GK K).cA x) ∧ NoAttr K ((GK K).cA x) "came" := by
  refine List.forall_mem_cons.mpr ⟨⟨cl_Stock KX Gn c, He.noat_ok (c.fact 63 (f := .noat "Stock" "came") rfl)⟩, (fun _ h => nomatch h)⟩
theorem x_BadMoney : PySem.W.excIn K ((GK K).cA "BadMoney") He.veBase "ValueError.__new__" = true ∧ PySem.W.keepIn K (.ref ((GK K).cA "BadMoney")) = true ∧ PySem.W.subIn K (.ref ((GK K).cA "BadMoney")) (.type "BaseException") = some true ∧ PySem.W.typeIn K (.ref ((GK K).cA "BadMoney")) = some (.type "type") := He.exc_ok (c.fact 73 (f := .exc "BadMoney") rfl)
theorem x_BadDay : PySem.W.excIn K ((GK K).cA "BadDay") He.veBase "ValueError.__new__" = true ∧ PySem.W.keepIn K (.ref ((GK K).cA "BadDay")) = true ∧ PySem.W.subIn K (.ref ((GK K).cA "BadDay")) (.type "BaseException") = some true ∧ PySem.W.typeIn K (.ref ((GK K).cA "BadDay")) = some (.type "type") := He.exc_ok (c.fact 75 (f := .exc "BadDay") rfl)
theorem x_BadRule : PySem.W.excIn K ((GK K).cA "BadRule") He.veBase "ValueError.__new__" = true ∧ PySem.W.keepIn K (.ref ((GK K).cA "BadRule")) = true ∧ PySem.W.subIn K (.ref ((GK K).cA "BadRule")) (.type "BaseException") = some true ∧ PySem.W.typeIn K (.ref ((GK K).cA "BadRule")) = some (.type "type") := He.exc_ok (c.fact 77 (f := .exc "BadRule") rfl)
theorem x_Shut : PySem.W.excIn K ((GK K).cA "Shut") He.veBase "ValueError.__new__" = true ∧ PySem.W.keepIn K (.ref ((GK K).cA "Shut")) = true ∧ PySem.W.subIn K (.ref ((GK K).cA "Shut")) (.type "BaseException") = some true ∧ PySem.W.typeIn K (.ref ((GK K).cA "Shut")) = some (.type "type") := He.exc_ok (c.fact 80 (f := .exc "Shut") rfl)
theorem x_NoAnswer : PySem.W.excIn K ((GK K).cA "NoAnswer") He.veBase "ValueError.__new__" = true ∧ PySem.W.keepIn K (.ref ((GK K).cA "NoAnswer")) = true ∧ PySem.W.subIn K (.ref ((GK K).cA "NoAnswer")) (.type "BaseException") = some true ∧ PySem.W.typeIn K (.ref ((GK K).cA "NoAnswer")) = some (.type "type") := He.exc_ok (c.fact 84 (f := .exc "NoAnswer") rfl)
theorem exall : ∀ e ∈ raisable, ∀ q ∈ tellers, PySem.W.exmOne K (.ref ((GK K).cA e)) (.ref ((GK K).cA q.1)) = some (subB e q.1) := by
  unfold raisable tellers
  exact List.forall_mem_cons.mpr ⟨List.forall_mem_cons.mpr ⟨by rw [show subB "BadMoney" "BadMoney" = true from by decide]; exact He.exm_ok (c.fact 96 (f := .exm "BadMoney" "BadMoney" true) rfl), List.forall_mem_cons.mpr ⟨by rw [show subB "BadMoney" "BadDay" = false from by decide]; exact He.exm_ok (c.fact 97 (f := .exm "BadMoney" "BadDay" false) rfl), List.forall_mem_cons.mpr ⟨by rw [show subB "BadMoney" "BadRule" = false from by decide]; exact He.exm_ok (c.fact 98 (f := .exm "BadMoney" "BadRule" false) rfl), List.forall_mem_cons.mpr ⟨by rw [show subB "BadMoney" "Unbalanced" = false from by decide]; exact He.exm_ok (c.fact 99 (f := .exm "BadMoney" "Unbalanced" false) rfl), List.forall_mem_cons.mpr ⟨by rw [show subB "BadMoney" "Shut" = false from by decide]; exact He.exm_ok (c.fact 100 (f := .exm "BadMoney" "Shut" false) rfl), List.forall_mem_cons.mpr ⟨by rw [show subB "BadMoney" "Short" = false from by decide]; exact He.exm_ok (c.fact 101 (f := .exm "BadMoney" "Short" false) rfl), List.forall_mem_cons.mpr ⟨by rw [show subB "BadMoney" "BadText" = false from by decide]; exact He.exm_ok (c.fact 102 (f := .exm "BadMoney" "BadText" false) rfl), List.forall_mem_cons.mpr ⟨by rw [show subB "BadMoney" "NoAnswer" = false from by decide]; exact He.exm_ok (c.fact 103 (f := .exm "BadMoney" "NoAnswer" false) rfl), (fun _ h => nomatch h)⟩⟩⟩⟩⟩⟩⟩⟩, List.forall_mem_cons.mpr ⟨List.forall_mem_cons.mpr ⟨by rw [show subB "BadDay" "BadMoney" = false from by decide]; exact He.exm_ok (c.fact 105 (f := .exm "BadDay" "BadMoney" false) rfl), List.forall_mem_cons.mpr ⟨by rw [show subB "BadDay" "BadDay" = true from by decide]; exact He.exm_ok (c.fact 106 (f := .exm "BadDay" "BadDay" true) rfl), List.forall_mem_cons.mpr ⟨by rw [show subB "BadDay" "BadRule" = false from by decide]; exact He.exm_ok (c.fact 107 (f := .exm "BadDay" "BadRule" false) rfl), List.forall_mem_cons.mpr ⟨by rw [show subB "BadDay" "Unbalanced" = false from by decide]; exact He.exm_ok (c.fact 108 (f := .exm "BadDay" "Unbalanced" false) rfl), List.forall_mem_cons.mpr ⟨by rw [show subB "BadDay" "Shut" = false from by decide]; exact He.exm_ok (c.fact 109 (f := .exm "BadDay" "Shut" false) rfl), List.forall_mem_cons.mpr ⟨by rw [show subB "BadDay" "Short" = false from by decide]; exact He.exm_ok (c.fact 110 (f := .exm "BadDay" "Short" false) rfl), List.forall_mem_cons.mpr ⟨by rw [show subB "BadDay" "BadText" = false from by decide]; exact He.exm_ok (c.fact 111 (f := .exm "BadDay" "BadText" false) rfl), List.forall_mem_cons.mpr ⟨by rw [show subB "BadDay" "NoAnswer" = false from by decide]; exact He.exm_ok (c.fact 112 (f := .exm "BadDay" "NoAnswer" false) rfl), (fun _ h => nomatch h)⟩⟩⟩⟩⟩⟩⟩⟩, List.forall_mem_cons.mpr ⟨List.forall_mem_cons.mpr ⟨by rw [show subB "BadRule" "BadMoney" = false from by decide]; exact He.exm_ok (c.fact 114 (f := .exm "BadRule" "BadMoney" false) rfl), List.forall_mem_cons.mpr ⟨by rw [show subB "BadRule" "BadDay" = false from by decide]; exact He.exm_ok (c.fact 115 (f := .exm "BadRule" "BadDay" false) rfl), List.forall_mem_cons.mpr ⟨by rw [show subB "BadRule" "BadRule" = true from by decide]; exact He.exm_ok (c.fact 116 (f := .exm "BadRule" "BadRule" true) rfl), List.forall_mem_cons.mpr ⟨by rw [show subB "BadRule" "Unbalanced" = false from by decide]; exact He.exm_ok (c.fact 117 (f := .exm "BadRule" "Unbalanced" false) rfl), List.forall_mem_cons.mpr ⟨by rw [show subB "BadRule" "Shut" = false from by decide]; exact He.exm_ok (c.fact 118 (f := .exm "BadRule" "Shut" false) rfl), List.forall_mem_cons.mpr ⟨by rw [show subB "BadRule" "Short" = false from by decide]; exact He.exm_ok (c.fact 119 (f := .exm "BadRule" "Short" false) rfl), List.forall_mem_cons.mpr ⟨by rw [show subB "BadRule" "BadText" = false from by decide]; exact He.exm_ok (c.fact 120 (f := .exm "BadRule" "BadText" false) rfl), List.forall_mem_cons.mpr ⟨by rw [show subB "BadRule" "NoAnswer" = false from by decide]; exact He.exm_ok (c.fact 121 (f := .exm "BadRule" "NoAnswer" false) rfl), (fun _ h => nomatch h)⟩⟩⟩⟩⟩⟩⟩⟩, List.forall_mem_cons.mpr ⟨List.forall_mem_cons.mpr ⟨by rw [show subB "Shut" "BadMoney" = false from by decide]; exact He.exm_ok (c.fact 123 (f := .exm "Shut" "BadMoney" false) rfl), List.forall_mem_cons.mpr ⟨by rw [show subB "Shut" "BadDay" = false from by decide]; exact He.exm_ok (c.fact 124 (f := .exm "Shut" "BadDay" false) rfl), List.forall_mem_cons.mpr ⟨by rw [show subB "Shut" "BadRule" = false from by decide]; exact He.exm_ok (c.fact 125 (f := .exm "Shut" "BadRule" false) rfl), List.forall_mem_cons.mpr ⟨by rw [show subB "Shut" "Unbalanced" = false from by decide]; exact He.exm_ok (c.fact 126 (f := .exm "Shut" "Unbalanced" false) rfl), List.forall_mem_cons.mpr ⟨by rw [show subB "Shut" "Shut" = true from by decide]; exact He.exm_ok (c.fact 127 (f := .exm "Shut" "Shut" true) rfl), List.forall_mem_cons.mpr ⟨by rw [show subB "Shut" "Short" = false from by decide]; exact He.exm_ok (c.fact 128 (f := .exm "Shut" "Short" false) rfl), List.forall_mem_cons.mpr ⟨by rw [show subB "Shut" "BadText" = false from by decide]; exact He.exm_ok (c.fact 129 (f := .exm "Shut" "BadText" false) rfl), List.forall_mem_cons.mpr ⟨by rw [show subB "Shut" "NoAnswer" = false from by decide]; exact He.exm_ok (c.fact 130 (f := .exm "Shut" "NoAnswer" false) rfl), (fun _ h => nomatch h)⟩⟩⟩⟩⟩⟩⟩⟩, List.forall_mem_cons.mpr ⟨List.forall_mem_cons.mpr ⟨by rw [show subB "Short" "BadMoney" = false from by decide]; exact He.exm_ok (c.fact 141 (f := .exm "Short" "BadMoney" false) rfl), List.forall_mem_cons.mpr ⟨by rw [show subB "Short" "BadDay" = false from by decide]; exact He.exm_ok (c.fact 142 (f := .exm "Short" "BadDay" false) rfl), List.forall_mem_cons.mpr ⟨by rw [show subB "Short" "BadRule" = false from by decide]; exact He.exm_ok (c.fact 143 (f := .exm "Short" "BadRule" false) rfl), List.forall_mem_cons.mpr ⟨by rw [show subB "Short" "Unbalanced" = false from by decide]; exact He.exm_ok (c.fact 144 (f := .exm "Short" "Unbalanced" false) rfl), List.forall_mem_cons.mpr ⟨by rw [show subB "Short" "Shut" = false from by decide]; exact He.exm_ok (c.fact 145 (f := .exm "Short" "Shut" false) rfl), List.forall_mem_cons.mpr ⟨by rw [show subB "Short" "Short" = true from by decide]; exact He.exm_ok (c.fact 146 (f := .exm "Short" "Short" true) rfl), List.forall_mem_cons.mpr ⟨by rw [show subB "Short" "BadText" = false from by decide]; exact He.exm_ok (c.fact 147 (f := .exm "Short" "BadText" false) rfl), List.forall_mem_cons.mpr ⟨by rw [show subB "Short" "NoAnswer" = false from by decide]; exact He.exm_ok (c.fact 148 (f := .exm "Short" "NoAnswer" false) rfl), (fun _ h => nomatch h)⟩⟩⟩⟩⟩⟩⟩⟩, List.forall_mem_cons.mpr ⟨List.forall_mem_cons.mpr ⟨by rw [show subB "NoAnswer" "BadMoney" = false from by decide]; exact He.exm_ok (c.fact 132 (f := .exm "NoAnswer" "BadMoney" false) rfl), List.forall_mem_cons.mpr ⟨by rw [show subB "NoAnswer" "BadDay" = false from by decide]; exact He.exm_ok (c.fact 133 (f := .exm "NoAnswer" "BadDay" false) rfl), List.forall_mem_cons.mpr ⟨by rw [show subB "NoAnswer" "BadRule" = false from by decide]; exact He.exm_ok (c.fact 134 (f := .exm "NoAnswer" "BadRule" false) rfl), List.forall_mem_cons.mpr ⟨by rw [show subB "NoAnswer" "Unbalanced" = false from by decide]; exact He.exm_ok (c.fact 135 (f := .exm "NoAnswer" "Unbalanced" false) rfl), List.forall_mem_cons.mpr ⟨by rw [show subB "NoAnswer" "Shut" = false from by decide]; exact He.exm_ok (c.fact 136 (f := .exm "NoAnswer" "Shut" false) rfl), List.forall_mem_cons.mpr ⟨by rw [show subB "NoAnswer" "Short" = false from by decide]; exact He.exm_ok (c.fact 137 (f := .exm "NoAnswer" "Short" false) rfl), List.forall_mem_cons.mpr ⟨by rw [show subB "NoAnswer" "BadText" = false from by decide]; exact He.exm_ok (c.fact 138 (f := .exm "NoAnswer" "BadText" false) rfl), List.forall_mem_cons.mpr ⟨by rw [show subB "NoAnswer" "NoAnswer" = true from by decide]; exact He.exm_ok (c.fact 139 (f := .exm "NoAnswer" "NoAnswer" true) rfl), (fun _ h => nomatch h)⟩⟩⟩⟩⟩⟩⟩⟩, (fun _ h => nomatch h)⟩⟩⟩⟩⟩⟩
theorem fn__law_dice  : FnD P w K mg base (GK K) 1 (He.fAd K ("_law_dice", none)) 1 (runD 1 (f__law_dice)) := by
  obtain ⟨fd, F0⟩ := c.def_ 32 (d := d__law_dice) rfl
  have F : FunD K "_law_dice" "_law_dice" (defArgs s__law_dice) (defBody s__law_dice) (defScope s__law_dice) [] [] (He.fAd K ("_law_dice", none)) fd := F0
  have b : Binds K fd ["cell"] [] := F.bindsN fun _ _ _ _ _ _ us hl => match us, hl with | [_], _ => rfl
  exact fnD_of F sc__law_dice b fun cdv A outer s H E hl hcd hr => (jss_cons (js_if (jt_chain jop_lt jop_lt (je_op jop_sub je_int je_int) (je_var 0) je_int)
  (jss_one (js_ret (je_lst (ja_cons (je_blt jb_abs (z_abs KX Gn c) boot_abs (ja_cons (je_var 0) ja_nil)) (ja_cons je_int (ja_cons je_int ja_nil))))))
  jss_nil)
  (jss_one (js_ret (je_lst (ja_cons (je_var 0) (ja_cons (je_op jop_add je_int (je_op jop_mod (je_bty jb_int (z_int KX Gn c) boot_int (ja_cons (je_var 0) ja_nil)) je_int)) (ja_cons (je_bty jb_int (z_int KX Gn c) boot_int (ja_cons (je_cmp jop_ge (je_var 0) (je_op jop_pow je_int je_int)) ja_nil)) ja_nil)))))))
theorem fn__law_rounds {M__law_dice : DF} (h__law_dice : FnD P w K mg base (GK K) 1 (He.fAd K ("_law_dice", none)) 1 M__law_dice) : FnD P w K mg base (GK K) 2 (He.fAd K ("_law_rounds", none)) 2 (runD 4 (f__law_rounds M__law_dice)) := by
  obtain ⟨fd, F0⟩ := c.def_ 34 (d := d__law_rounds) rfl
  have F : FunD K "_law_rounds" "_law_rounds" (defArgs s__law_rounds) (defBody s__law_rounds) (defScope s__law_rounds) [] [] (He.fAd K ("_law_rounds", none)) fd := F0
  have b : Binds K fd ["script", "most"] [] := F.bindsN fun _ _ _ _ _ _ us hl => match us, hl with | [_, _], _ => rfl
  exact fnD_of F sc__law_rounds b fun cdv A outer s H E hl hcd hr => (jss_cons (js_set 2 sc__law_rounds.nd (je_slice (je_var 0) jp_none (jp_some (je_var 1))))
  (jss_cons (js_if (jt_cmp (jop_eq hr.units) (je_var 2) (je_lst ja_nil))
  (jss_one (js_set 2 sc__law_rounds.nd (je_lst (ja_cons je_int ja_nil))))
  jss_nil)
  (jss_one (js_ret (je_lc rfl sc__law_rounds.nd (blkOk_by (own := [("cell", 3)]) (N := N__law_rounds) (sc := defScope s__law_rounds) (by decide +kernel)) (ji_seq (je_var 2)) (fun _ _ _ _ _ => (jgv_name 3 sc__law_rounds.nd (by decide))) (fun _ _ _ _ _ => jts_nil) (fun _ _ _ _ _ => (je_call h__law_dice takes0 (hr.mono (by decide)) (g__law_dice KX Gn c) (ja_cons (je_var 3) ja_nil))))))))
theorem fn__law_roll  : FnD P w K mg base (GK K) 1 (He.fAd K ("_law_roll", none)) 2 (runD 3 (f__law_roll)) := by
  obtain ⟨fd, F0⟩ := c.def_ 33 (d := d__law_roll) rfl
  have F : FunD K "_law_roll" "_law_roll" (defArgs s__law_roll) (defBody s__law_roll) (defScope s__law_roll) [] [] (He.fAd K ("_law_roll", none)) fd := F0
  have b : Binds K fd ["dice", "many"] [] := F.bindsN fun _ _ _ _ _ _ us hl => match us, hl with | [_, _], _ => rfl
  exact fnD_of F sc__law_roll b fun cdv A outer s H E hl hcd hr => (jss_cons (js_if (jt_of (jw_or (jt_cmp (jop_eq hr.units) (je_ix (je_var 0) je_int) je_int) (jw_or1 (jt_of (jw_and (jt_cmp (jop_eq hr.units) (je_ix (je_var 0) je_int) je_int) (jw_and1 (jt_cmp jop_gt (je_ix (je_var 0) je_int) je_int)))))))
  (jss_cons (js_set 2 sc__law_roll.nd (je_op jop_mod (je_bty jb_int (z_int KX Gn c) boot_int (ja_cons (je_ix (je_var 0) je_int) ja_nil)) (je_var 1)))
  (jss_cons (js_asg (je_op jop_fdiv (je_ix (je_var 0) je_int) (je_var 1)) (jg_ix (je_var 0) je_int))
  (jss_one (js_ret (je_var 2)))))
  jss_nil)
  (jss_cons (js_asg je_int (jg_ix (je_var 0) je_int))
  (jss_cons (js_asg (je_op jop_mod (je_bty jb_int (z_int KX Gn c) boot_int (ja_cons (je_op jop_add (je_op jop_add (je_op jop_mul (je_ix (je_var 0) je_int) je_int) (je_op jop_mul (je_ix (je_var 0) je_int) je_int)) je_int) ja_nil)) je_int) (jg_ix (je_var 0) je_int))
  (jss_cons (js_asg (je_op jop_add (je_ix (je_var 0) je_int) je_int) (jg_ix (je_var 0) je_int))
  (jss_one (js_ret (je_op jop_mod (je_bty jb_int (z_int KX Gn c) boot_int (ja_cons (je_op jop_add (je_op jop_fdiv (je_ix (je_var 0) je_int) je_int) (je_ix (je_var 0) je_int)) ja_nil)) (je_var 1))))))))
theorem fn_check_thing  : FnD P w K mg base (GK K) 1 (He.fAd K ("check_thing", none)) 3 (runD 3 (f_check_thing)) := by
  obtain ⟨fd, F0⟩ := c.def_ 16 (d := d_check_thing) rfl
  have F : FunD K "check_thing" "check_thing" (defArgs s_check_thing) (defBody s_check_thing) (defScope s_check_thing) [] [] (He.fAd K ("check_thing", none)) fd := F0
  have b : Binds K fd ["cost", "rest", "years"] [] := F.bindsN fun _ _ _ _ _ _ us hl => match us, hl with | [_, _, _], _ => rfl
  exact fnD_of F sc_check_thing b fun cdv A outer s H E hl hcd hr => (jss_one (js_if (jt_of (jw_or (jt_not (jt_chain jop_le jop_le je_int (je_var 1) (je_var 0))) (jw_or1 (jt_cmp jop_lt (je_var 2) je_int))))
  (jss_one (js_raise (c := "BadRule") rfl (takes_of rfl rfl rfl rfl) PySem.F.excBase_ValueError (x_BadRule KX Gn c).1 (g_BadRule KX Gn c) (x_BadRule KX Gn c).2.1 (raises_own (x_BadRule KX Gn c).2.2.1 (x_BadRule KX Gn c).2.2.2)))
  jss_nil))
theorem fn_even {M_check_thing : DF} (h_check_thing : FnD P w K mg base (GK K) 1 (He.fAd K ("check_thing", none)) 3 M_check_thing) : FnD P w K mg base (GK K) 2 (He.fAd K ("even", none)) 3 (runD 5 (f_even M_check_thing)) := by
  obtain ⟨fd, F0⟩ := c.def_ 17 (d := d_even) rfl
  have F : FunD K "even" "even" (defArgs s_even) (defBody s_even) (defScope s_even) [] [] (He.fAd K ("even", none)) fd := F0
  have b : Binds K fd ["cost", "rest", "years"] [] := F.bindsN fun _ _ _ _ _ _ us hl => match us, hl with | [_, _, _], _ => rfl
  exact fnD_of F sc_even b fun cdv A outer s H E hl hcd hr => (jss_cons (js_expr (je_call h_check_thing (takes_of rfl rfl rfl rfl) (hr.mono (by decide)) (g_check_thing KX Gn c) (ja_cons (je_var 0) (ja_cons (je_var 1) (ja_cons (je_var 2) ja_nil)))))
  (jss_cons (js_set 3 sc_even.nd (je_op jop_sub (je_var 0) (je_var 1)))
  (jss_one (js_ret (je_bty jb_tuple (z_tuple KX Gn c) boot_tuple (ja_cons (je_lc rfl sc_even.nd (blkOk_by (own := [("k", 4)]) (N := N_even) (sc := defScope s_even) (by decide +kernel)) (ji_range1 (z_range KX Gn c) (je_var 2)) (fun _ _ _ _ _ => (jgv_name 4 sc_even.nd (by decide))) (fun _ _ _ _ _ => jts_nil) (fun _ _ _ _ _ => (je_op jop_sub (je_op jop_fdiv (je_op jop_mul (je_var 3) (je_op jop_add (je_var 4) je_int)) (je_var 2)) (je_op jop_fdiv (je_op jop_mul (je_var 3) (je_var 4)) (je_var 2))))) ja_nil))))))
theorem fn_is_slower  (tb : ∀ p ∈ tf, LamX.TabB base mg (He.cT K p).1 (He.cT K p).2) (nd2 : (tf.map fun p => (He.cT K p).2).Nodup) : FnD P w K mg base (GK K) 4 (He.fAd K ("is_slower", none)) 2 (runD 3 (f_is_slower)) := by
  obtain ⟨fd, F0⟩ := c.def_ 29 (d := d_is_slower) rfl
  have F : FunD K "is_slower" "is_slower" (defArgs s_is_slower) (defBody s_is_slower) (defScope s_is_slower) [] [] (He.fAd K ("is_slower", none)) fd := F0
  have b : Binds K fd ["one", "other"] [] := F.bindsN fun _ _ _ _ _ _ us hl => match us, hl with | [_, _], _ => rfl
  obtain ⟨fdT, FT0⟩ := c.def_ 35 (d := d__law_told) rfl
  have FT : FunD K "_law_told" "_law_told" (defArgs s__law_told) (defBody s__law_told) (defScope s__law_told) [] [] (He.fAd K ("_law_told", none)) fdT := FT0
  have bT : Binds K fdT ["what"] [] := FT.bindsN fun _ _ _ _ _ _ us hl => match us, hl with | [_], _ => rfl
  have kT := FT.kp
  obtain ⟨ocT, odT, dVT, kVT, docT, pmT, anT, cdT, ctT, oslT, rfl, lkT, hcT, _, _⟩ := FT.ex
  have hu : ∀ p ∈ (GK K).T, p.1 = (He.cT K ("is_slower", none)).2 → p.2 = (("is_slower" : Str) ++ (".<locals>." : Str)) ++ ("<genexpr>" : Str) := by
    have n2 := nd2
    simp only [tf, List.map_cons, List.map_nil, List.nodup_cons, List.mem_cons, List.not_mem_nil, or_false, not_or] at n2
    intro p hp e
    simp only [GK, List.mem_cons, List.not_mem_nil, or_false] at hp
    rcases hp with rfl | rfl | rfl | rfl | rfl | rfl | rfl | rfl | rfl | rfl | rfl
    · exfalso; simp_all
    · exfalso; simp_all
    · exfalso; simp_all
    · exfalso; simp_all
    · exfalso; simp_all
    · exfalso; simp_all
    · exfalso; simp_all
    · rfl
    · exfalso; simp_all
    · exfalso; simp_all
    · exfalso; simp_all
  refine fnD_of F sc_is_slower b fun cdv A outer s H E hl hcd hr => ?_
  have ec := code_is (p := ("is_slower", none)) hl hcd
  subst ec
  exact (jss_one (js_ret (je_allX (k := 0) (c := (He.cT K ("is_slower", none)).1) (P := (He.cT K ("is_slower", none)).2) (hr.mono (by decide)) (z_all KX Gn c) (tb ("is_slower", none) (List.Mem.tail _ (List.Mem.tail _ (List.Mem.tail _ (List.Mem.tail _ (List.Mem.tail _ (List.Mem.tail _ (List.Mem.tail _ (List.Mem.head _))))))))) rfl (List.Mem.tail _ (List.Mem.tail _ (List.Mem.tail _ (List.Mem.tail _ (List.Mem.tail _ (List.Mem.tail _ (List.Mem.tail _ (List.Mem.head _)))))))) hu sc_is_slower.nd (genB_by (N := N_is_slower) (sc := defScope s_is_slower) (own := [("k", 2)]) (by decide +kernel)) (ji_range1 (z_range KX Gn c) (je_op jop_add (je_blt (jb_max rfl) (z_max KX Gn c) boot_max (ja_cons (je_blt jb_len (z_len KX Gn c) boot_len (ja_cons (je_var 0) ja_nil)) (ja_cons (je_blt jb_len (z_len KX Gn c) boot_len (ja_cons (je_var 1) ja_nil)) ja_nil))) je_int)) (fun _ _ _ _ hrg => (jgv_name 2 sc_is_slower.nd (by decide))) (fun _ _ _ _ hrg => jts_nil) (fun _ _ _ _ hrg => (je_cmp jop_le (je_blt (jb_sumT rfl) (z_sum KX Gn c) PyProof.Rows.boot_sum (ja_cons (je_slice (je_var 0) jp_none (jp_some (je_var 2))) ja_nil)) (je_blt (jb_sumT rfl) (z_sum KX Gn c) PyProof.Rows.boot_sum (ja_cons (je_slice (je_var 1) jp_none (jp_some (je_var 2))) ja_nil)))))))
theorem fn_with_parts {M_even : DF} (h_even : FnD P w K mg base (GK K) 2 (He.fAd K ("even", none)) 3 M_even) (tb : ∀ p ∈ tf, LamX.TabB base mg (He.cT K p).1 (He.cT K p).2) (nd2 : (tf.map fun p => (He.cT K p).2).Nodup) : FnD P w K mg base (GK K) 4 (He.fAd K ("with_parts", none)) 1 (runD 8 (f_with_parts M_even)) := by
  obtain ⟨fd, F0⟩ := c.def_ 24 (d := d_with_parts) rfl
  have F : FunD K "with_parts" "with_parts" (defArgs s_with_parts) (defBody s_with_parts) (defScope s_with_parts) [] [] (He.fAd K ("with_parts", none)) fd := F0
  have b : Binds K fd ["pieces"] [] := F.bindsN fun _ _ _ _ _ _ us hl => match us, hl with | [_], _ => rfl
  obtain ⟨fdT, FT0⟩ := c.def_ 35 (d := d__law_told) rfl
  have FT : FunD K "_law_told" "_law_told" (defArgs s__law_told) (defBody s__law_told) (defScope s__law_told) [] [] (He.fAd K ("_law_told", none)) fdT := FT0
  have bT : Binds K fdT ["what"] [] := FT.bindsN fun _ _ _ _ _ _ us hl => match us, hl with | [_], _ => rfl
  have kT := FT.kp
  obtain ⟨ocT, odT, dVT, kVT, docT, pmT, anT, cdT, ctT, oslT, rfl, lkT, hcT, _, _⟩ := FT.ex
  have hu : ∀ p ∈ (GK K).T, p.1 = (He.cT K ("with_parts", none)).2 → p.2 = (("with_parts" : Str) ++ (".<locals>." : Str)) ++ ("<genexpr>" : Str) := by
    have n2 := nd2
    simp only [tf, List.map_cons, List.map_nil, List.nodup_cons, List.mem_cons, List.not_mem_nil, or_false, not_or] at n2
    intro p hp e
    simp only [GK, List.mem_cons, List.not_mem_nil, or_false] at hp
    rcases hp with rfl | rfl | rfl | rfl | rfl | rfl | rfl | rfl | rfl | rfl | rfl
    · exfalso; simp_all
    · exfalso; simp_all
    · exfalso; simp_all
    · exfalso; simp_all
    · exfalso; simp_all
    · exfalso; simp_all
    · rfl
    · exfalso; simp_all
    · exfalso; simp_all
    · exfalso; simp_all
    · exfalso; simp_all
  refine fnD_of F sc_with_parts b fun cdv A outer s H E hl hcd hr => ?_
  have ec := code_is (p := ("with_parts", none)) hl hcd
  subst ec
  exact (jss_cons (js_set 1 sc_with_parts.nd (je_lc rfl sc_with_parts.nd (blkOk_by (own := [("cost", 3), ("rest", 4), ("years", 5)]) (N := N_with_parts) (sc := defScope s_with_parts) (by decide +kernel)) (ji_seq (je_var 0)) (fun _ _ _ _ _ => (jgv_tup rfl (jgsv_cons (jgv_name 3 sc_with_parts.nd (by decide)) (jgsv_cons (jgv_name 4 sc_with_parts.nd (by decide)) (jgsv_cons (jgv_name 5 sc_with_parts.nd (by decide)) jgsv_nil))))) (fun _ _ _ _ _ => jts_nil) (fun _ _ _ _ _ => (je_call h_even takes0 (hr.mono (by decide)) (g_even KX Gn c) (ja_cons (je_var 3) (ja_cons (je_var 4) (ja_cons (je_var 5) ja_nil)))))))
  (jss_cons (js_set 2 sc_with_parts.nd (je_blt (jb_maxT rfl) (z_max KX Gn c) boot_max (ja_cons (je_op jop_add (je_lst (ja_cons je_int ja_nil)) (je_lc rfl sc_with_parts.nd (blkOk_by (own := [("row", 7)]) (N := N_with_parts) (sc := defScope s_with_parts) (by decide +kernel)) (ji_seq (je_var 1)) (fun _ _ _ _ _ => (jgv_name 7 sc_with_parts.nd (by decide))) (fun _ _ _ _ _ => jts_nil) (fun _ _ _ _ _ => (je_blt jb_len (z_len KX Gn c) boot_len (ja_cons (je_var 7) ja_nil))))) ja_nil)))
  (jss_one (js_ret (je_bty jb_tuple (z_tuple KX Gn c) boot_tuple (ja_cons (je_lc rfl sc_with_parts.nd (blkOk_by (own := [("k", 6)]) (N := N_with_parts) (sc := defScope s_with_parts) (by decide +kernel)) (ji_range1 (z_range KX Gn c) (je_var 2)) (fun _ _ _ _ _ => (jgv_name 6 sc_with_parts.nd (by decide))) (fun _ _ _ _ _ => jts_nil) (fun _ _ _ _ _ => (je_sumX (k := 0) (c := (He.cT K ("with_parts", none)).1) (P := (He.cT K ("with_parts", none)).2) (hr.mono (by decide)) (z_sum KX Gn c) (tb ("with_parts", none) (List.Mem.tail _ (List.Mem.tail _ (List.Mem.tail _ (List.Mem.tail _ (List.Mem.tail _ (List.Mem.tail _ (List.Mem.head _)))))))) rfl (List.Mem.tail _ (List.Mem.tail _ (List.Mem.tail _ (List.Mem.tail _ (List.Mem.tail _ (List.Mem.tail _ (List.Mem.head _))))))) hu sc_with_parts.nd (genB_by (N := N_with_parts) (sc := _) (own := [("row", 7)]) (by kernel_rfl)) (ji_seq (je_var 1)) (fun _ _ _ _ hrg => (jgv_name 7 sc_with_parts.nd (by decide))) (fun _ _ _ _ hrg => (jts_one (jt_cmp jop_lt (je_var 6) (je_blt jb_len (z_len KX Gn c) boot_len (ja_cons (je_var 7) ja_nil))))) (fun _ _ _ _ hrg => (je_ix (je_var 7) (je_var 6)))))) ja_nil))))))
theorem fn_tested  : FnD P w K mg base (GK K) 1 (He.fAd K ("tested", none)) 2 (runD 2 (f_tested)) := by
  obtain ⟨fd, F0⟩ := c.def_ 27 (d := d_tested) rfl
  have F : FunD K "tested" "tested" (defArgs s_tested) (defBody s_tested) (defScope s_tested) [] [] (He.fAd K ("tested", none)) fd := F0
  have b : Binds K fd ["left", "worth"] [] := F.bindsN fun _ _ _ _ _ _ us hl => match us, hl with | [_, _], _ => rfl
  exact fnD_of F sc_tested b fun cdv A outer s H E hl hcd hr => (jss_one (js_ret (je_tup (ja_cons (je_blt (jb_max rfl) (z_max KX Gn c) boot_max (ja_cons je_int (ja_cons (je_op jop_sub (je_var 0) (je_var 1)) ja_nil))) (ja_cons (je_blt (jb_min rfl) (z_min KX Gn c) boot_min (ja_cons (je_var 0) (ja_cons (je_var 1) ja_nil))) ja_nil)))))
theorem fn_cheaper  : FnD P w K mg base (GK K) 1 (He.fAd K ("cheaper", none)) 4 (runD 5 (f_cheaper)) := by
  obtain ⟨fd, F0⟩ := c.def_ 28 (d := d_cheaper) rfl
  have F : FunD K "cheaper" "cheaper" (defArgs s_cheaper) (defBody s_cheaper) (defScope s_cheaper) [] [] (He.fAd K ("cheaper", none)) fd := F0
  have b : Binds K fd ["years", "keeps", "price", "saves"] [] := F.bindsN fun _ _ _ _ _ _ us hl => match us, hl with | [_, _, _, _], _ => rfl
  exact fnD_of F sc_cheaper b fun cdv A outer s H E hl hcd hr => (jss_cons (js_for (passes_of rfl) rfl (ji_range1 (z_range KX Gn c) (je_var 0)) (jg_name 4 sc_cheaper.nd)
  (jss_one (js_if (jt_cmp jop_le (je_op jop_sub (je_var 2) (je_op jop_mul (je_var 3) (je_op jop_sub (je_var 0) (je_var 4)))) (je_blt (jb_sumT rfl) (z_sum KX Gn c) PyProof.Rows.boot_sum (ja_cons (je_slice (je_var 1) (jp_some (je_var 4)) jp_none) ja_nil)))
  (jss_one (js_ret (je_var 4)))
  jss_nil)))
  (jss_one (js_ret je_non)))
theorem fn_rounded  (tup_RULES : He.tupB K "RULES" ((["down", "up", "half up", "half even", "half down"] : List Str).map He.Dv.str) = true) : FnD P w K mg base (GK K) 1 (He.fAd K ("rounded", none)) 2 (runD 6 (f_rounded)) := by
  obtain ⟨fd, F0⟩ := c.def_ 3 (d := d_rounded) rfl
  have F : FunD K "rounded" "rounded" (defArgs s_rounded) (defBody s_rounded) (defScope s_rounded) [] [] (He.fAd K ("rounded", none)) fd := F0
  have b : Binds K fd ["a", "rule"] [] := F.bindsN fun _ _ _ _ _ _ us hl => match us, hl with | [_, _], _ => rfl
  exact fnD_of F sc_rounded b fun cdv A outer s H E hl hcd hr => (jss_cons (js_if (jt_cmp jop_notIn (je_var 1) (je_globT (zs := ["down", "up", "half up", "half even", "half down"]) (g_RULES KX Gn c) tup_RULES))
  (jss_one (js_raise (c := "BadRule") rfl (takes_of rfl rfl rfl rfl) PySem.F.excBase_ValueError (x_BadRule KX Gn c).1 (g_BadRule KX Gn c) (x_BadRule KX Gn c).2.1 (raises_own (x_BadRule KX Gn c).2.2.1 (x_BadRule KX Gn c).2.2.2)))
  jss_nil)
  (jss_cons (js_set 2 sc_rounded.nd (je_if (jt_cmp jop_lt (je_ix (je_var 0) je_int) je_int) (je_neg je_int) je_int))
  (jss_cons (js_par2 3 4 rfl sc_rounded.nd (ja_cons (je_op jop_fdiv (je_blt jb_abs (z_abs KX Gn c) boot_abs (ja_cons (je_ix (je_var 0) je_int) ja_nil)) (je_ix (je_var 0) je_int)) (ja_cons (je_op jop_mod (je_blt jb_abs (z_abs KX Gn c) boot_abs (ja_cons (je_ix (je_var 0) je_int) ja_nil)) (je_ix (je_var 0) je_int)) ja_nil)))
  (jss_cons (js_set 5 sc_rounded.nd (je_or (je_and (je_cmp (jop_eq hr.units) (je_var 1) je_str) (je_one (je_cmp jop_gt (je_var 4) je_int))) (je_one (je_and (je_cmp jop_gt (je_op jop_mul je_int (je_var 4)) (je_ix (je_var 0) je_int)) (je_one (je_cmp (jop_eq hr.units) (je_slice (je_var 1) jp_none (jp_some je_int)) je_str))))))
  (jss_cons (js_if (jt_of (jw_and (jt_cmp (jop_eq hr.units) (je_op jop_mul je_int (je_var 4)) (je_ix (je_var 0) je_int)) (jw_and1 (jt_cmp (jop_eq hr.units) (je_slice (je_var 1) jp_none (jp_some je_int)) je_str))))
  (jss_one (js_set 5 sc_rounded.nd (je_or (je_cmp (jop_eq hr.units) (je_var 1) je_str) (je_one (je_and (je_cmp (jop_eq hr.units) (je_var 1) je_str) (je_one (je_cmp (jop_eq hr.units) (je_op jop_mod (je_var 3) je_int) je_int)))))))
  jss_nil)
  (jss_one (js_ret (je_op jop_mul (je_var 2) (je_op jop_add (je_var 3) (je_bty jb_int (z_int KX Gn c) boot_int (ja_cons (je_var 5) ja_nil)))))))))))
theorem fn_part  : FnD P w K mg base (GK K) 1 (He.fAd K ("part", none)) 2 (runD 5 (f_part)) := by
  obtain ⟨fd, F0⟩ := c.def_ 0 (d := d_part) rfl
  have F : FunD K "part" "part" (defArgs s_part) (defBody s_part) (defScope s_part) [] [] (He.fAd K ("part", none)) fd := F0
  have b : Binds K fd ["top", "bottom"] [] := F.bindsN fun _ _ _ _ _ _ us hl => match us, hl with | [_, _], _ => rfl
  exact fnD_of F sc_part b fun cdv A outer s H E hl hcd hr => (jss_cons (js_if (jt_cmp (jop_eq hr.units) (je_var 1) je_int)
  (jss_one (js_raise (c := "BadRule") rfl (takes_of rfl rfl rfl rfl) PySem.F.excBase_ValueError (x_BadRule KX Gn c).1 (g_BadRule KX Gn c) (x_BadRule KX Gn c).2.1 (raises_own (x_BadRule KX Gn c).2.2.1 (x_BadRule KX Gn c).2.2.2)))
  jss_nil)
  (jss_cons (js_par2 2 3 rfl sc_part.nd (ja_cons (je_blt jb_abs (z_abs KX Gn c) boot_abs (ja_cons (je_var 0) ja_nil)) (ja_cons (je_blt jb_abs (z_abs KX Gn c) boot_abs (ja_cons (je_var 1) ja_nil)) ja_nil)))
  (jss_cons (js_while (passes_of rfl) (jt_cmp (jop_ne hr.units) (je_var 3) je_int) (jss_one (js_par2 2 3 rfl sc_part.nd (ja_cons (je_var 3) (ja_cons (je_op jop_mod (je_var 2) (je_var 3)) ja_nil)))))
  (jss_cons (js_set 4 sc_part.nd (je_if (jt_cmp jop_gt (je_var 1) je_int) je_int (je_neg je_int)))
  (jss_cons (js_set 2 sc_part.nd (je_blt (jb_max rfl) (z_max KX Gn c) boot_max (ja_cons (je_var 2) (ja_cons je_int ja_nil))))
  (jss_one (js_ret (je_tup (ja_cons (je_op jop_fdiv (je_op jop_mul (je_var 4) (je_var 0)) (je_var 2)) (ja_cons (je_op jop_fdiv (je_blt jb_abs (z_abs KX Gn c) boot_abs (ja_cons (je_var 1) ja_nil)) (je_var 2)) ja_nil))))))))))
theorem fn_by_hand {M_part : DF} (h_part : FnD P w K mg base (GK K) 1 (He.fAd K ("part", none)) 2 M_part) {M_rounded : DF} (h_rounded : FnD P w K mg base (GK K) 1 (He.fAd K ("rounded", none)) 2 M_rounded) (sup_Short : SupC K P ((GK K).cA "Short") "lacking") : FnD P w K mg base (GK K) 2 (He.fAd K ("by_hand", none)) 2 (runD 8 (f_by_hand M_part M_rounded)) := by
  obtain ⟨fd, F0⟩ := c.def_ 12 (d := d_by_hand) rfl
  have F : FunD K "by_hand" "by_hand" (defArgs s_by_hand) (defBody s_by_hand) (defScope s_by_hand) [] [] (He.fAd K ("by_hand", none)) fd := F0
  have b : Binds K fd ["lots", "picks"] [] := F.bindsN fun _ _ _ _ _ _ us hl => match us, hl with | [_, _], _ => rfl
  exact fnD_of F sc_by_hand b fun cdv A outer s H E hl hcd hr => (jss_cons (js_par2 2 3 rfl sc_by_hand.nd (ja_cons (je_lc rfl sc_by_hand.nd (blkOk_by (own := [("lot", 7)]) (N := N_by_hand) (sc := defScope s_by_hand) (by decide +kernel)) (ji_seq (je_var 0)) (fun _ _ _ _ _ => (jgv_name 7 sc_by_hand.nd (by decide))) (fun _ _ _ _ _ => jts_nil) (fun _ _ _ _ _ => (je_bty jb_list (z_list KX Gn c) boot_list (ja_cons (je_var 7) ja_nil)))) (ja_cons je_int ja_nil)))
  (jss_cons (js_for (passes_of rfl) rfl (ji_seq (je_var 1)) (jg_tup rfl (jgs_cons (jg_name 4 sc_by_hand.nd) (jgs_cons (jg_name 5 sc_by_hand.nd) jgs_nil)))
  (jss_cons (js_if (jt_of (jw_or (jt_not (jt_chain jop_le jop_lt je_int (je_var 4) (je_blt jb_len (z_len KX Gn c) boot_len (ja_cons (je_var 2) ja_nil)))) (jw_or1 (jt_cmp jop_lt (je_var 5) je_int))))
  (jss_one (js_raise (c := "BadRule") rfl (takes_of rfl rfl rfl rfl) PySem.F.excBase_ValueError (x_BadRule KX Gn c).1 (g_BadRule KX Gn c) (x_BadRule KX Gn c).2.1 (raises_own (x_BadRule KX Gn c).2.2.1 (x_BadRule KX Gn c).2.2.2)))
  jss_nil)
  (jss_cons (js_if (jt_cmp jop_gt (je_var 5) (je_ix (je_ix (je_var 2) (je_var 4)) je_int))
  (jss_one (js_raiseI (c := "Short") (fld := "lacking") (k := 0) rfl (takes_of rfl rfl rfl rfl) sup_Short (hr.mono (by decide)) (g_Short KX Gn c) (z_super KX Gn c) (je_op jop_sub (je_var 5) (je_ix (je_ix (je_var 2) (je_var 4)) je_int))))
  jss_nil)
  (jss_cons (js_set 6 sc_by_hand.nd (je_call h_rounded (takes_of rfl rfl rfl rfl) (hr.mono (by decide)) (g_rounded KX Gn c) (ja_cons (je_call h_part (takes_of rfl rfl rfl rfl) (hr.mono (by decide)) (g_part KX Gn c) (ja_cons (je_op jop_mul (je_ix (je_ix (je_var 2) (je_var 4)) je_int) (je_var 5)) (ja_cons (je_ix (je_ix (je_var 2) (je_var 4)) je_int) ja_nil))) (ja_cons je_str ja_nil))))
  (jss_cons (js_aug 3 sc_by_hand.nd jip_add (je_var 6))
  (jss_one (js_asg (je_lst (ja_cons (je_op jop_sub (je_ix (je_ix (je_var 2) (je_var 4)) je_int) (je_var 5)) (ja_cons (je_op jop_sub (je_ix (je_ix (je_var 2) (je_var 4)) je_int) (je_var 6)) ja_nil))) (jg_ix (je_var 2) (je_var 4)))))))))
  (jss_one (js_ret (je_tup (ja_cons (je_var 3) (ja_cons (je_bty jb_tuple (z_tuple KX Gn c) boot_tuple (ja_cons (je_lc rfl sc_by_hand.nd (blkOk_by (own := [("lot", 7)]) (N := N_by_hand) (sc := defScope s_by_hand) (by decide +kernel)) (ji_seq (je_var 2)) (fun _ _ _ _ _ => (jgv_name 7 sc_by_hand.nd (by decide))) (fun _ _ _ _ _ => (jts_one (jt_cmp jop_gt (je_ix (je_var 7) je_int) je_int))) (fun _ _ _ _ _ => (je_bty jb_tuple (z_tuple KX Gn c) boot_tuple (ja_cons (je_var 7) ja_nil)))) ja_nil)) ja_nil)))))))
theorem fn_within_year  : FnD P w K mg base (GK K) 1 (He.fAd K ("within_year", none)) 2 (runD 6 (f_within_year)) := by
  obtain ⟨fd, F0⟩ := c.def_ 25 (d := d_within_year) rfl
  have F : FunD K "within_year" "within_year" (defArgs s_within_year) (defBody s_within_year) (defScope s_within_year) [] [] (He.fAd K ("within_year", none)) fd := F0
  have b : Binds K fd ["wear", "months"] [] := F.bindsN fun _ _ _ _ _ _ us hl => match us, hl with | [_, _], _ => rfl
  exact fnD_of F sc_within_year b fun cdv A outer s H E hl hcd hr => (jss_cons (js_if (jt_of (jw_or (jt_not (jt_chain jop_lt jop_le je_int (je_var 1) je_int)) (jw_or1 (jt_cmp (jop_eq hr.units) (je_blt jb_len (z_len KX Gn c) boot_len (ja_cons (je_var 0) ja_nil)) je_int))))
  (jss_one (js_raise (c := "BadRule") rfl (takes_of rfl rfl rfl rfl) PySem.F.excBase_ValueError (x_BadRule KX Gn c).1 (g_BadRule KX Gn c) (x_BadRule KX Gn c).2.1 (raises_own (x_BadRule KX Gn c).2.2.1 (x_BadRule KX Gn c).2.2.2)))
  jss_nil)
  (jss_cons (js_par2 2 3 rfl sc_within_year.nd (ja_cons (je_lst ja_nil) (ja_cons je_int ja_nil)))
  (jss_cons (js_for (passes_of rfl) rfl (ji_seq (je_var 0)) (jg_name 4 sc_within_year.nd)
  (jss_cons (js_set 5 sc_within_year.nd (je_op jop_fdiv (je_op jop_mul (je_var 4) (je_var 1)) je_int))
  (jss_cons (js_expr (je_app (je_var 2) (je_op jop_add (je_var 3) (je_var 5))))
  (jss_one (js_set 3 sc_within_year.nd (je_op jop_sub (je_var 4) (je_var 5)))))))
  (jss_cons (js_if (jt_cmp jop_lt (je_var 1) je_int)
  (jss_one (js_expr (je_app (je_var 2) (je_var 3))))
  (jss_one (js_augS jip_add (je_var 2) (je_neg je_int) (je_var 3))))
  (jss_one (js_ret (je_bty jb_tuple (z_tuple KX Gn c) boot_tuple (ja_cons (je_var 2) ja_nil))))))))
theorem fn__law_more {M_by_hand : DF} (h_by_hand : FnD P w K mg base (GK K) 2 (He.fAd K ("by_hand", none)) 2 M_by_hand) {M_cheaper : DF} (h_cheaper : FnD P w K mg base (GK K) 1 (He.fAd K ("cheaper", none)) 4 M_cheaper) {M_tested : DF} (h_tested : FnD P w K mg base (GK K) 1 (He.fAd K ("tested", none)) 2 M_tested) {M__law_roll : DF} (h__law_roll : FnD P w K mg base (GK K) 1 (He.fAd K ("_law_roll", none)) 2 M__law_roll) {M_within_year : DF} (h_within_year : FnD P w K mg base (GK K) 1 (He.fAd K ("within_year", none)) 2 M_within_year) {M_with_parts : DF} (h_with_parts : FnD P w K mg base (GK K) 4 (He.fAd K ("with_parts", none)) 1 M_with_parts) : FnD P w K mg base (GK K) 5 (He.fAd K ("_law_more", none)) 5 (runD 9 (f__law_more M_by_hand M_cheaper M_tested M__law_roll M_within_year M_with_parts)) := by
  obtain ⟨fd, F0⟩ := c.def_ 39 (d := d__law_more) rfl
  have F : FunD K "_law_more" "_law_more" (defArgs s__law_more) (defBody s__law_more) (defScope s__law_more) [] [] (He.fAd K ("_law_more", none)) fd := F0
  have b : Binds K fd ["dice", "cost", "rest", "years", "flat"] [] := F.bindsN fun _ _ _ _ _ _ us hl => match us, hl with | [_, _, _, _, _], _ => rfl
  exact fnD_of F sc__law_more b fun cdv A outer s H E hl hcd hr => (jss_cons (js_set 5 sc__law_more.nd (je_call h_with_parts (takes_of rfl rfl rfl rfl) (hr.mono (by decide)) (g_with_parts KX Gn c) (ja_cons (je_tup (ja_cons (je_tup (ja_cons (je_var 1) (ja_cons (je_var 2) (ja_cons (je_var 3) ja_nil)))) (ja_cons (je_tup (ja_cons je_int (ja_cons je_int (ja_cons je_int ja_nil)))) ja_nil))) ja_nil)))
  (jss_cons (js_if (jt_cmp (jop_ne hr.units) (je_blt (jb_sumT rfl) (z_sum KX Gn c) PyProof.Rows.boot_sum (ja_cons (je_var 5) ja_nil)) (je_op jop_add (je_op jop_sub (je_var 1) (je_var 2)) je_int))
  (jss_one (js_ret je_bl))
  jss_nil)
  (jss_cons (js_if (jt_of (jw_or (jt_cmp (jop_ne hr.units) (je_blt (jb_sumT rfl) (z_sum KX Gn c) PyProof.Rows.boot_sum (ja_cons (je_call h_within_year (takes_of rfl rfl rfl rfl) (hr.mono (by decide)) (g_within_year KX Gn c) (ja_cons (je_var 4) (ja_cons (je_op jop_add je_int (je_call h__law_roll (takes_of rfl rfl rfl rfl) (hr.mono (by decide)) (g__law_roll KX Gn c) (ja_cons (je_var 0) (ja_cons je_int ja_nil)))) ja_nil))) ja_nil)) (je_op jop_sub (je_var 1) (je_var 2))) (jw_or1 (jt_cmp (jop_ne hr.units) (je_call h_tested (takes_of rfl rfl rfl rfl) (hr.mono (by decide)) (g_tested KX Gn c) (ja_cons je_int (ja_cons je_int ja_nil))) (je_tup (ja_cons je_int (ja_cons je_int ja_nil)))))))
  (jss_one (js_ret je_bl))
  jss_nil)
  (jss_cons (js_if (jt_cmp (jop_ne hr.units) (je_call h_tested (takes_of rfl rfl rfl rfl) (hr.mono (by decide)) (g_tested KX Gn c) (ja_cons je_int (ja_cons je_int ja_nil))) (je_tup (ja_cons je_int (ja_cons je_int ja_nil))))
  (jss_one (js_ret je_bl))
  jss_nil)
  (jss_cons (js_set 6 sc__law_more.nd (je_lst (ja_cons je_int (ja_cons je_int (ja_cons je_int ja_nil)))))
  (jss_cons (js_setLc 7 rfl sc__law_more.nd (blkOk_by (own := [("k", 8)]) (N := N__law_more) (sc := defScope s__law_more) (by decide +kernel)) (ji_range1 (z_range KX Gn c) je_int) (fun _ _ _ _ _ => (jgv_name 8 sc__law_more.nd (by decide))) (fun _ _ _ _ _ => (jts_one (jt_cmp jop_le (je_op jop_sub je_int (je_op jop_mul je_int (je_op jop_sub je_int (je_var 8)))) (je_blt (jb_sumT rfl) (z_sum KX Gn c) PyProof.Rows.boot_sum (ja_cons (je_slice (je_var 6) (jp_some (je_var 8)) jp_none) ja_nil))))) (fun _ _ _ _ _ => (je_var 8)) (sw_true rfl rfl rfl (by decide +kernel)))
  (jss_cons (js_if (jt_cmp (jop_ne hr.units) (je_call h_cheaper (takes_of rfl rfl rfl rfl) (hr.mono (by decide)) (g_cheaper KX Gn c) (ja_cons je_int (ja_cons (je_var 6) (ja_cons je_int (ja_cons je_int ja_nil))))) (je_if (jt_cmp (jop_ne hr.units) (je_var 7) (je_lst ja_nil)) (je_ix (je_var 7) je_int) je_non))
  (jss_one (js_ret je_bl))
  jss_nil)
  (jss_cons (js_if (jt_cmp (jop_ne hr.units) (je_call h_by_hand (takes_of rfl rfl rfl rfl) (hr.mono (by decide)) (g_by_hand KX Gn c) (ja_cons (je_tup (ja_cons (je_tup (ja_cons je_int (ja_cons je_int ja_nil))) (ja_cons (je_tup (ja_cons je_int (ja_cons je_int ja_nil))) ja_nil))) (ja_cons (je_tup (ja_cons (je_tup (ja_cons je_int (ja_cons je_int ja_nil))) (ja_cons (je_tup (ja_cons je_int (ja_cons je_int ja_nil))) ja_nil))) ja_nil))) (je_tup (ja_cons (je_op jop_add je_int je_int) (ja_cons (je_tup (ja_cons (je_tup (ja_cons je_int (ja_cons je_int ja_nil))) ja_nil)) ja_nil))))
  (jss_one (js_ret je_bl))
  jss_nil)
  (jss_one (js_ret je_bl))))))))))
theorem fn_Stock_worth  (tb : ∀ p ∈ tf, LamX.TabB base mg (He.cT K p).1 (He.cT K p).2) (nd2 : (tf.map fun p => (He.cT K p).2).Nodup) : FnD P w K mg base (GK K) 4 (He.fAd K ("Stock", some "worth")) 1 (runD 3 (f_Stock_worth)) := by
  obtain ⟨fd, F0⟩ := c.def_ 8 (d := d_Stock_worth) rfl
  have F : FunD K "worth" "Stock.worth" (defArgs s_Stock_worth) (defBody s_Stock_worth) (defScope s_Stock_worth) [] [] (He.fAd K ("Stock", some "worth")) fd := F0
  have b : Binds K fd ["self"] [] := F.bindsN fun _ _ _ _ _ _ us hl => match us, hl with | [_], _ => rfl
  obtain ⟨fdT, FT0⟩ := c.def_ 35 (d := d__law_told) rfl
  have FT : FunD K "_law_told" "_law_told" (defArgs s__law_told) (defBody s__law_told) (defScope s__law_told) [] [] (He.fAd K ("_law_told", none)) fdT := FT0
  have bT : Binds K fdT ["what"] [] := FT.bindsN fun _ _ _ _ _ _ us hl => match us, hl with | [_], _ => rfl
  have kT := FT.kp
  obtain ⟨ocT, odT, dVT, kVT, docT, pmT, anT, cdT, ctT, oslT, rfl, lkT, hcT, _, _⟩ := FT.ex
  have hu : ∀ p ∈ (GK K).T, p.1 = (He.cT K ("Stock", some "worth")).2 → p.2 = (("Stock.worth" : Str) ++ (".<locals>." : Str)) ++ ("<genexpr>" : Str) := by
    have n2 := nd2
    simp only [tf, List.map_cons, List.map_nil, List.nodup_cons, List.mem_cons, List.not_mem_nil, or_false, not_or] at n2
    intro p hp e
    simp only [GK, List.mem_cons, List.not_mem_nil, or_false] at hp
    rcases hp with rfl | rfl | rfl | rfl | rfl | rfl | rfl | rfl | rfl | rfl | rfl
    · exfalso; simp_all
    · rfl
    · exfalso; simp_all
    · exfalso; simp_all
    · exfalso; simp_all
    · exfalso; simp_all
    · exfalso; simp_all
    · exfalso; simp_all
    · exfalso; simp_all
    · exfalso; simp_all
    · exfalso; simp_all
  refine fnD_of F sc_Stock_worth b fun cdv A outer s H E hl hcd hr => ?_
  have ec := code_is (p := ("Stock", some "worth")) hl hcd
  subst ec
  exact (jss_one (js_ret (je_sumX (k := 0) (c := (He.cT K ("Stock", some "worth")).1) (P := (He.cT K ("Stock", some "worth")).2) (hr.mono (by decide)) (z_sum KX Gn c) (tb ("Stock", some "worth") (List.Mem.tail _ (List.Mem.head _))) rfl (List.Mem.tail _ (List.Mem.head _)) hu sc_Stock_worth.nd (genB_by (N := N_Stock_worth) (sc := defScope s_Stock_worth) (own := [("many", 1), ("much", 2)]) (by decide +kernel)) (ji_seq (je_fld (fl_lots KX Gn c) (je_var 0))) (fun _ _ _ _ hrg => (jgv_tup rfl (jgsv_cons (jgv_name 1 sc_Stock_worth.nd (by decide)) (jgsv_cons (jgv_name 2 sc_Stock_worth.nd (by decide)) jgsv_nil)))) (fun _ _ _ _ hrg => jts_nil) (fun _ _ _ _ hrg => (je_var 2)))))
theorem fn_Stock_lowered {M_Stock_worth : DF} (h_Stock_worth : FnD P w K mg base (GK K) 4 (He.fAd K ("Stock", some "worth")) 1 M_Stock_worth) (tb : ∀ p ∈ tf, LamX.TabB base mg (He.cT K p).1 (He.cT K p).2) (nd2 : (tf.map fun p => (He.cT K p).2).Nodup) : FnD P w K mg base (GK K) 5 (He.fAd K ("Stock", some "lowered")) 2 (runD 6 (f_Stock_lowered M_Stock_worth)) := by
  obtain ⟨fd, F0⟩ := c.def_ 11 (d := d_Stock_lowered) rfl
  have F : FunD K "lowered" "Stock.lowered" (defArgs s_Stock_lowered) (defBody s_Stock_lowered) (defScope s_Stock_lowered) [] [] (He.fAd K ("Stock", some "lowered")) fd := F0
  have b : Binds K fd ["self", "price"] [] := F.bindsN fun _ _ _ _ _ _ us hl => match us, hl with | [_, _], _ => rfl
  obtain ⟨fdT, FT0⟩ := c.def_ 35 (d := d__law_told) rfl
  have FT : FunD K "_law_told" "_law_told" (defArgs s__law_told) (defBody s__law_told) (defScope s__law_told) [] [] (He.fAd K ("_law_told", none)) fdT := FT0
  have bT : Binds K fdT ["what"] [] := FT.bindsN fun _ _ _ _ _ _ us hl => match us, hl with | [_], _ => rfl
  have kT := FT.kp
  obtain ⟨ocT, odT, dVT, kVT, docT, pmT, anT, cdT, ctT, oslT, rfl, lkT, hcT, _, _⟩ := FT.ex
  have hu : ∀ p ∈ (GK K).T, p.1 = (He.cT K ("Stock", some "lowered")).2 → p.2 = (("Stock.lowered" : Str) ++ (".<locals>." : Str)) ++ ("<genexpr>" : Str) := by
    have n2 := nd2
    simp only [tf, List.map_cons, List.map_nil, List.nodup_cons, List.mem_cons, List.not_mem_nil, or_false, not_or] at n2
    intro p hp e
    simp only [GK, List.mem_cons, List.not_mem_nil, or_false] at hp
    rcases hp with rfl | rfl | rfl | rfl | rfl | rfl | rfl | rfl | rfl | rfl | rfl
    · exfalso; simp_all
    · exfalso; simp_all
    · exfalso; simp_all
    · rfl
    · exfalso; simp_all
    · exfalso; simp_all
    · exfalso; simp_all
    · exfalso; simp_all
    · exfalso; simp_all
    · exfalso; simp_all
    · exfalso; simp_all
  refine fnD_of F sc_Stock_lowered b fun cdv A outer s H E hl hcd hr => ?_
  have ec := code_is (p := ("Stock", some "lowered")) hl hcd
  subst ec
  exact (jss_cons (js_if (jt_cmp jop_lt (je_var 1) je_int)
  (jss_one (js_raise (c := "BadRule") rfl (takes_of rfl rfl rfl rfl) PySem.F.excBase_ValueError (x_BadRule KX Gn c).1 (g_BadRule KX Gn c) (x_BadRule KX Gn c).2.1 (raises_own (x_BadRule KX Gn c).2.2.1 (x_BadRule KX Gn c).2.2.2)))
  jss_nil)
  (jss_cons (js_set 2 sc_Stock_lowered.nd (je_lst ja_nil))
  (jss_cons (js_for (passes_of rfl) rfl (ji_seq (je_fld (fl_lots KX Gn c) (je_var 0))) (jg_tup rfl (jgs_cons (jg_name 3 sc_Stock_lowered.nd) (jgs_cons (jg_name 4 sc_Stock_lowered.nd) jgs_nil)))
  (jss_one (js_expr (je_app (je_var 2) (je_tup (ja_cons (je_var 3) (ja_cons (je_blt (jb_min rfl) (z_min KX Gn c) boot_min (ja_cons (je_var 4) (ja_cons (je_op jop_mul (je_var 3) (je_var 1)) ja_nil))) ja_nil)))))))
  (jss_cons (js_set 5 sc_Stock_lowered.nd (je_op jop_sub (je_meth0 (c := "Stock") h_Stock_worth (takes_of rfl rfl rfl rfl) (hr.mono (by decide)) (cl_Stock KX Gn c) (mt_Stock_worth KX Gn c) (je_var 0)) (je_sumX (k := 0) (c := (He.cT K ("Stock", some "lowered")).1) (P := (He.cT K ("Stock", some "lowered")).2) (hr.mono (by decide)) (z_sum KX Gn c) (tb ("Stock", some "lowered") (List.Mem.tail _ (List.Mem.tail _ (List.Mem.tail _ (List.Mem.head _))))) rfl (List.Mem.tail _ (List.Mem.tail _ (List.Mem.tail _ (List.Mem.head _)))) hu sc_Stock_lowered.nd (genB_by (N := N_Stock_lowered) (sc := defScope s_Stock_lowered) (own := [("many", 3), ("much", 4)]) (by decide +kernel)) (ji_seq (je_var 2)) (fun _ _ _ _ hrg => (jgv_tup rfl (jgsv_cons (jgv_name 3 sc_Stock_lowered.nd (by decide)) (jgsv_cons (jgv_name 4 sc_Stock_lowered.nd (by decide)) jgsv_nil)))) (fun _ _ _ _ hrg => jts_nil) (fun _ _ _ _ hrg => (je_var 4)))))
  (jss_cons (js_fld (fl_lots KX Gn c) (je_var 0) (je_var 2))
  (jss_cons (js_expr (je_app (je_fld (fl_came KX Gn c) (je_var 0)) (je_tup (ja_cons je_int (ja_cons (je_neg (je_var 5)) ja_nil)))))
  (jss_one (js_ret (je_var 5)))))))))
theorem fn_Stock___init__  : FnD P w K mg base (GK K) 1 (He.fAd K ("Stock", some "__init__")) 2 (runD 2 (f_Stock___init__)) := by
  obtain ⟨fd, F0⟩ := c.def_ 4 (d := d_Stock___init__) rfl
  have F : FunD K "__init__" "Stock.__init__" (defArgs s_Stock___init__) (defBody s_Stock___init__) (defScope s_Stock___init__) [] [] (He.fAd K ("Stock", some "__init__")) fd := F0
  have b : Binds K fd ["self", "way"] [] := F.bindsN fun _ _ _ _ _ _ us hl => match us, hl with | [_, _], _ => rfl
  exact fnD_of F sc_Stock___init__ b fun cdv A outer s H E hl hcd hr => (jss_cons (js_if (jt_cmp jop_notIn (je_var 1) (je_tup (ja_cons je_str (ja_cons je_str (ja_cons je_str ja_nil)))))
  (jss_one (js_raise (c := "BadRule") rfl (takes_of rfl rfl rfl rfl) PySem.F.excBase_ValueError (x_BadRule KX Gn c).1 (g_BadRule KX Gn c) (x_BadRule KX Gn c).2.1 (raises_own (x_BadRule KX Gn c).2.2.1 (x_BadRule KX Gn c).2.2.2)))
  jss_nil)
  (jss_cons (js_fld (fl_way KX Gn c) (je_var 0) (je_var 1))
  (jss_cons (js_fld (fl_lots KX Gn c) (je_var 0) (je_lst ja_nil))
  (jss_cons (js_fld (fl_gone KX Gn c) (je_var 0) (je_lst ja_nil))
  (jss_one (js_fld (fl_came KX Gn c) (je_var 0) (je_lst ja_nil)))))))
theorem fn_Stock_there  (tb : ∀ p ∈ tf, LamX.TabB base mg (He.cT K p).1 (He.cT K p).2) (nd2 : (tf.map fun p => (He.cT K p).2).Nodup) : FnD P w K mg base (GK K) 4 (He.fAd K ("Stock", some "there")) 1 (runD 3 (f_Stock_there)) := by
  obtain ⟨fd, F0⟩ := c.def_ 7 (d := d_Stock_there) rfl
  have F : FunD K "there" "Stock.there" (defArgs s_Stock_there) (defBody s_Stock_there) (defScope s_Stock_there) [] [] (He.fAd K ("Stock", some "there")) fd := F0
  have b : Binds K fd ["self"] [] := F.bindsN fun _ _ _ _ _ _ us hl => match us, hl with | [_], _ => rfl
  obtain ⟨fdT, FT0⟩ := c.def_ 35 (d := d__law_told) rfl
  have FT : FunD K "_law_told" "_law_told" (defArgs s__law_told) (defBody s__law_told) (defScope s__law_told) [] [] (He.fAd K ("_law_told", none)) fdT := FT0
  have bT : Binds K fdT ["what"] [] := FT.bindsN fun _ _ _ _ _ _ us hl => match us, hl with | [_], _ => rfl
  have kT := FT.kp
  obtain ⟨ocT, odT, dVT, kVT, docT, pmT, anT, cdT, ctT, oslT, rfl, lkT, hcT, _, _⟩ := FT.ex
  have hu : ∀ p ∈ (GK K).T, p.1 = (He.cT K ("Stock", some "there")).2 → p.2 = (("Stock.there" : Str) ++ (".<locals>." : Str)) ++ ("<genexpr>" : Str) := by
    have n2 := nd2
    simp only [tf, List.map_cons, List.map_nil, List.nodup_cons, List.mem_cons, List.not_mem_nil, or_false, not_or] at n2
    intro p hp e
    simp only [GK, List.mem_cons, List.not_mem_nil, or_false] at hp
    rcases hp with rfl | rfl | rfl | rfl | rfl | rfl | rfl | rfl | rfl | rfl | rfl
    · rfl
    · exfalso; simp_all
    · exfalso; simp_all
    · exfalso; simp_all
    · exfalso; simp_all
    · exfalso; simp_all
    · exfalso; simp_all
    · exfalso; simp_all
    · exfalso; simp_all
    · exfalso; simp_all
    · exfalso; simp_all
  refine fnD_of F sc_Stock_there b fun cdv A outer s H E hl hcd hr => ?_
  have ec := code_is (p := ("Stock", some "there")) hl hcd
  subst ec
  exact (jss_one (js_ret (je_sumX (k := 0) (c := (He.cT K ("Stock", some "there")).1) (P := (He.cT K ("Stock", some "there")).2) (hr.mono (by decide)) (z_sum KX Gn c) (tb ("Stock", some "there") (List.Mem.head _)) rfl (List.Mem.head _) hu sc_Stock_there.nd (genB_by (N := N_Stock_there) (sc := defScope s_Stock_there) (own := [("many", 1), ("much", 2)]) (by decide +kernel)) (ji_seq (je_fld (fl_lots KX Gn c) (je_var 0))) (fun _ _ _ _ hrg => (jgv_tup rfl (jgsv_cons (jgv_name 1 sc_Stock_there.nd (by decide)) (jgsv_cons (jgv_name 2 sc_Stock_there.nd (by decide)) jgsv_nil)))) (fun _ _ _ _ hrg => jts_nil) (fun _ _ _ _ hrg => (je_var 1)))))
theorem fn_Stock_look {M_Stock_worth : DF} (h_Stock_worth : FnD P w K mg base (GK K) 4 (He.fAd K ("Stock", some "worth")) 1 M_Stock_worth) {M_Stock_there : DF} (h_Stock_there : FnD P w K mg base (GK K) 4 (He.fAd K ("Stock", some "there")) 1 M_Stock_there) (tb : ∀ p ∈ tf, LamX.TabB base mg (He.cT K p).1 (He.cT K p).2) (nd2 : (tf.map fun p => (He.cT K p).2).Nodup) : FnD P w K mg base (GK K) 5 (He.fAd K ("Stock", some "look")) 1 (runD 5 (f_Stock_look M_Stock_worth M_Stock_there)) := by
  obtain ⟨fd, F0⟩ := c.def_ 10 (d := d_Stock_look) rfl
  have F : FunD K "look" "Stock.look" (defArgs s_Stock_look) (defBody s_Stock_look) (defScope s_Stock_look) [] [] (He.fAd K ("Stock", some "look")) fd := F0
  have b : Binds K fd ["self"] [] := F.bindsN fun _ _ _ _ _ _ us hl => match us, hl with | [_], _ => rfl
  obtain ⟨fdT, FT0⟩ := c.def_ 35 (d := d__law_told) rfl
  have FT : FunD K "_law_told" "_law_told" (defArgs s__law_told) (defBody s__law_told) (defScope s__law_told) [] [] (He.fAd K ("_law_told", none)) fdT := FT0
  have bT : Binds K fdT ["what"] [] := FT.bindsN fun _ _ _ _ _ _ us hl => match us, hl with | [_], _ => rfl
  have kT := FT.kp
  obtain ⟨ocT, odT, dVT, kVT, docT, pmT, anT, cdT, ctT, oslT, rfl, lkT, hcT, _, _⟩ := FT.ex
  have hu : ∀ p ∈ (GK K).T, p.1 = (He.cT K ("Stock", some "look")).2 → p.2 = (("Stock.look" : Str) ++ (".<locals>." : Str)) ++ ("<genexpr>" : Str) := by
    have n2 := nd2
    simp only [tf, List.map_cons, List.map_nil, List.nodup_cons, List.mem_cons, List.not_mem_nil, or_false, not_or] at n2
    intro p hp e
    simp only [GK, List.mem_cons, List.not_mem_nil, or_false] at hp
    rcases hp with rfl | rfl | rfl | rfl | rfl | rfl | rfl | rfl | rfl | rfl | rfl
    · exfalso; simp_all
    · exfalso; simp_all
    · rfl
    · exfalso; simp_all
    · exfalso; simp_all
    · exfalso; simp_all
    · exfalso; simp_all
    · exfalso; simp_all
    · exfalso; simp_all
    · exfalso; simp_all
    · exfalso; simp_all
  refine fnD_of F sc_Stock_look b fun cdv A outer s H E hl hcd hr => ?_
  have ec := code_is (p := ("Stock", some "look")) hl hcd
  subst ec
  exact (jss_cons (js_set 1 sc_Stock_look.nd (je_tup (ja_cons (je_sumX (k := 0) (c := (He.cT K ("Stock", some "look")).1) (P := (He.cT K ("Stock", some "look")).2) (hr.mono (by decide)) (z_sum KX Gn c) (tb ("Stock", some "look") (List.Mem.tail _ (List.Mem.tail _ (List.Mem.head _)))) rfl (List.Mem.tail _ (List.Mem.tail _ (List.Mem.head _))) hu sc_Stock_look.nd (genB_by (N := N_Stock_look) (sc := defScope s_Stock_look) (own := [("many", 3), ("much", 4)]) (by decide +kernel)) (ji_seq (je_fld (fl_came KX Gn c) (je_var 0))) (fun _ _ _ _ hrg => (jgv_tup rfl (jgsv_cons (jgv_name 3 sc_Stock_look.nd (by decide)) (jgsv_cons (jgv_name 4 sc_Stock_look.nd (by decide)) jgsv_nil)))) (fun _ _ _ _ hrg => jts_nil) (fun _ _ _ _ hrg => (je_var 3))) (ja_cons (je_sumX (k := 0) (c := (He.cT K ("Stock", some "look")).1) (P := (He.cT K ("Stock", some "look")).2) (hr.mono (by decide)) (z_sum KX Gn c) (tb ("Stock", some "look") (List.Mem.tail _ (List.Mem.tail _ (List.Mem.head _)))) rfl (List.Mem.tail _ (List.Mem.tail _ (List.Mem.head _))) hu sc_Stock_look.nd (genB_by (N := N_Stock_look) (sc := defScope s_Stock_look) (own := [("many", 3), ("much", 4)]) (by decide +kernel)) (ji_seq (je_fld (fl_came KX Gn c) (je_var 0))) (fun _ _ _ _ hrg => (jgv_tup rfl (jgsv_cons (jgv_name 3 sc_Stock_look.nd (by decide)) (jgsv_cons (jgv_name 4 sc_Stock_look.nd (by decide)) jgsv_nil)))) (fun _ _ _ _ hrg => jts_nil) (fun _ _ _ _ hrg => (je_var 4))) ja_nil))))
  (jss_cons (js_set 2 sc_Stock_look.nd (je_tup (ja_cons (je_sumX (k := 0) (c := (He.cT K ("Stock", some "look")).1) (P := (He.cT K ("Stock", some "look")).2) (hr.mono (by decide)) (z_sum KX Gn c) (tb ("Stock", some "look") (List.Mem.tail _ (List.Mem.tail _ (List.Mem.head _)))) rfl (List.Mem.tail _ (List.Mem.tail _ (List.Mem.head _))) hu sc_Stock_look.nd (genB_by (N := N_Stock_look) (sc := defScope s_Stock_look) (own := [("many", 3), ("much", 4)]) (by decide +kernel)) (ji_seq (je_fld (fl_gone KX Gn c) (je_var 0))) (fun _ _ _ _ hrg => (jgv_tup rfl (jgsv_cons (jgv_name 3 sc_Stock_look.nd (by decide)) (jgsv_cons (jgv_name 4 sc_Stock_look.nd (by decide)) jgsv_nil)))) (fun _ _ _ _ hrg => jts_nil) (fun _ _ _ _ hrg => (je_var 3))) (ja_cons (je_sumX (k := 0) (c := (He.cT K ("Stock", some "look")).1) (P := (He.cT K ("Stock", some "look")).2) (hr.mono (by decide)) (z_sum KX Gn c) (tb ("Stock", some "look") (List.Mem.tail _ (List.Mem.tail _ (List.Mem.head _)))) rfl (List.Mem.tail _ (List.Mem.tail _ (List.Mem.head _))) hu sc_Stock_look.nd (genB_by (N := N_Stock_look) (sc := defScope s_Stock_look) (own := [("many", 3), ("much", 4)]) (by decide +kernel)) (ji_seq (je_fld (fl_gone KX Gn c) (je_var 0))) (fun _ _ _ _ hrg => (jgv_tup rfl (jgsv_cons (jgv_name 3 sc_Stock_look.nd (by decide)) (jgsv_cons (jgv_name 4 sc_Stock_look.nd (by decide)) jgsv_nil)))) (fun _ _ _ _ hrg => jts_nil) (fun _ _ _ _ hrg => (je_var 4))) ja_nil))))
  (jss_one (js_ret (je_cmp (jop_eq hr.units) (je_var 1) (je_tup (ja_cons (je_op jop_add (je_meth0 (c := "Stock") h_Stock_there (takes_of rfl rfl rfl rfl) (hr.mono (by decide)) (cl_Stock KX Gn c) (mt_Stock_there KX Gn c) (je_var 0)) (je_ix (je_var 2) je_int)) (ja_cons (je_op jop_add (je_meth0 (c := "Stock") h_Stock_worth (takes_of rfl rfl rfl rfl) (hr.mono (by decide)) (cl_Stock KX Gn c) (mt_Stock_worth KX Gn c) (je_var 0)) (je_ix (je_var 2) je_int)) ja_nil))))))))
theorem fn_Stock_come  : FnD P w K mg base (GK K) 1 (He.fAd K ("Stock", some "come")) 3 (runD 3 (f_Stock_come)) := by
  obtain ⟨fd, F0⟩ := c.def_ 5 (d := d_Stock_come) rfl
  have F : FunD K "come" "Stock.come" (defArgs s_Stock_come) (defBody s_Stock_come) (defScope s_Stock_come) [] [] (He.fAd K ("Stock", some "come")) fd := F0
  have b : Binds K fd ["self", "count", "worth"] [] := F.bindsN fun _ _ _ _ _ _ us hl => match us, hl with | [_, _, _], _ => rfl
  exact fnD_of F sc_Stock_come b fun cdv A outer s H E hl hcd hr => (jss_cons (js_if (jt_of (jw_or (jt_cmp jop_lt (je_var 1) je_int) (jw_or1 (jt_cmp jop_lt (je_var 2) je_int))))
  (jss_one (js_raise (c := "BadRule") rfl (takes_of rfl rfl rfl rfl) PySem.F.excBase_ValueError (x_BadRule KX Gn c).1 (g_BadRule KX Gn c) (x_BadRule KX Gn c).2.1 (raises_own (x_BadRule KX Gn c).2.2.1 (x_BadRule KX Gn c).2.2.2)))
  jss_nil)
  (jss_cons (js_expr (je_app (je_fld (fl_came KX Gn c) (je_var 0)) (je_tup (ja_cons (je_var 1) (ja_cons (je_var 2) ja_nil)))))
  (jss_one (js_if (jt_of (jw_and (jt_cmp (jop_eq hr.units) (je_fld (fl_way KX Gn c) (je_var 0)) je_str) (jw_and1 (jt_cmp (jop_ne hr.units) (je_fld (fl_lots KX Gn c) (je_var 0)) (je_lst ja_nil)))))
  (jss_one (js_fld (fl_lots KX Gn c) (je_var 0) (je_lst (ja_cons (je_tup (ja_cons (je_op jop_add (je_ix (je_ix (je_fld (fl_lots KX Gn c) (je_var 0)) je_int) je_int) (je_var 1)) (ja_cons (je_op jop_add (je_ix (je_ix (je_fld (fl_lots KX Gn c) (je_var 0)) je_int) je_int) (je_var 2)) ja_nil))) ja_nil))))
  (jss_one (js_expr (je_app (je_fld (fl_lots KX Gn c) (je_var 0)) (je_tup (ja_cons (je_var 1) (ja_cons (je_var 2) ja_nil))))))))))
theorem fn__law_cut  : FnD P w K mg base (GK K) 1 (He.fAd K ("_law_cut", none)) 3 (runD 10 (f__law_cut)) := by
  obtain ⟨fd, F0⟩ := c.def_ 36 (d := d__law_cut) rfl
  have F : FunD K "_law_cut" "_law_cut" (defArgs s__law_cut) (defBody s__law_cut) (defScope s__law_cut) [] [] (He.fAd K ("_law_cut", none)) fd := F0
  have b : Binds K fd ["lots", "count", "is_last"] [] := F.bindsN fun _ _ _ _ _ _ us hl => match us, hl with | [_, _, _], _ => rfl
  exact fnD_of F sc__law_cut b fun cdv A outer s H E hl hcd hr => (jss_cons (js_par2 3 4 rfl sc__law_cut.nd (ja_cons (je_bty jb_list (z_list KX Gn c) boot_list (ja_cons (je_var 0) ja_nil)) (ja_cons je_int ja_nil)))
  (jss_cons (js_while (passes_of rfl) (jt_cmp jop_gt (je_var 1) je_int) (jss_cons (js_asg (je_ix (je_var 3) (je_if (jt_val (je_var 2)) (je_op jop_sub (je_blt jb_len (z_len KX Gn c) boot_len (ja_cons (je_var 3) ja_nil)) je_int) je_int)) (jg_tup rfl (jgs_cons (jg_name 5 sc__law_cut.nd) (jgs_cons (jg_name 6 sc__law_cut.nd) jgs_nil))))
  (jss_cons (js_set 7 sc__law_cut.nd (je_blt (jb_min rfl) (z_min KX Gn c) boot_min (ja_cons (je_var 5) (ja_cons (je_var 1) ja_nil))))
  (jss_cons (js_set 8 sc__law_cut.nd (je_if (jt_cmp (jop_eq hr.units) (je_var 7) (je_var 5)) (je_var 6) (je_op jop_fdiv (je_op jop_add (je_op jop_mul (je_op jop_mul je_int (je_var 6)) (je_var 7)) (je_var 5)) (je_op jop_mul je_int (je_var 5)))))
  (jss_cons (js_par2 4 1 rfl sc__law_cut.nd (ja_cons (je_op jop_add (je_var 4) (je_var 8)) (ja_cons (je_op jop_sub (je_var 1) (je_var 7)) ja_nil)))
  (jss_cons (js_set 9 sc__law_cut.nd (je_if (jt_cmp jop_lt (je_var 7) (je_var 5)) (je_lst (ja_cons (je_tup (ja_cons (je_op jop_sub (je_var 5) (je_var 7)) (ja_cons (je_op jop_sub (je_var 6) (je_var 8)) ja_nil))) ja_nil)) (je_lst ja_nil)))
  (jss_one (js_set 3 sc__law_cut.nd (je_if (jt_val (je_var 2)) (je_op jop_add (je_slice (je_var 3) jp_none (jp_some (je_op jop_sub (je_blt jb_len (z_len KX Gn c) boot_len (ja_cons (je_var 3) ja_nil)) je_int))) (je_var 9)) (je_op jop_add (je_var 9) (je_slice (je_var 3) (jp_some je_int) jp_none)))))))))))
  (jss_one (js_ret (je_tup (ja_cons (je_var 4) (ja_cons (je_var 3) ja_nil)))))))
theorem fn_Stock_come_back {M_Stock_come : DF} (h_Stock_come : FnD P w K mg base (GK K) 1 (He.fAd K ("Stock", some "come")) 3 M_Stock_come) {M_part : DF} (h_part : FnD P w K mg base (GK K) 1 (He.fAd K ("part", none)) 2 M_part) {M_rounded : DF} (h_rounded : FnD P w K mg base (GK K) 1 (He.fAd K ("rounded", none)) 2 M_rounded) : FnD P w K mg base (GK K) 2 (He.fAd K ("Stock", some "come_back")) 2 (runD 5 (f_Stock_come_back M_Stock_come M_part M_rounded)) := by
  obtain ⟨fd, F0⟩ := c.def_ 9 (d := d_Stock_come_back) rfl
  have F : FunD K "come_back" "Stock.come_back" (defArgs s_Stock_come_back) (defBody s_Stock_come_back) (defScope s_Stock_come_back) [] [] (He.fAd K ("Stock", some "come_back")) fd := F0
  have b : Binds K fd ["self", "count"] [] := F.bindsN fun _ _ _ _ _ _ us hl => match us, hl with | [_, _], _ => rfl
  exact fnD_of F sc_Stock_come_back b fun cdv A outer s H E hl hcd hr => (jss_cons (js_if (jt_of (jw_or (jt_cmp (jop_eq hr.units) (je_fld (fl_gone KX Gn c) (je_var 0)) (je_lst ja_nil)) (jw_or (jt_cmp jop_lt (je_var 1) je_int) (jw_or1 (jt_cmp jop_gt (je_var 1) (je_ix (je_ix (je_fld (fl_gone KX Gn c) (je_var 0)) (je_neg je_int)) je_int))))))
  (jss_one (js_raise (c := "BadRule") rfl (takes_of rfl rfl rfl rfl) PySem.F.excBase_ValueError (x_BadRule KX Gn c).1 (g_BadRule KX Gn c) (x_BadRule KX Gn c).2.1 (raises_own (x_BadRule KX Gn c).2.2.1 (x_BadRule KX Gn c).2.2.2)))
  jss_nil)
  (jss_cons (js_asg (je_pop0 (je_fld (fl_gone KX Gn c) (je_var 0))) (jg_tup rfl (jgs_cons (jg_name 2 sc_Stock_come_back.nd) (jgs_cons (jg_name 3 sc_Stock_come_back.nd) jgs_nil))))
  (jss_cons (js_set 4 sc_Stock_come_back.nd (je_call h_rounded (takes_of rfl rfl rfl rfl) (hr.mono (by decide)) (g_rounded KX Gn c) (ja_cons (je_call h_part (takes_of rfl rfl rfl rfl) (hr.mono (by decide)) (g_part KX Gn c) (ja_cons (je_op jop_mul (je_var 3) (je_var 1)) (ja_cons (je_var 2) ja_nil))) (ja_cons je_str ja_nil))))
  (jss_cons (js_if (jt_cmp jop_lt (je_var 1) (je_var 2))
  (jss_one (js_expr (je_app (je_fld (fl_gone KX Gn c) (je_var 0)) (je_tup (ja_cons (je_op jop_sub (je_var 2) (je_var 1)) (ja_cons (je_op jop_sub (je_var 3) (je_var 4)) ja_nil))))))
  jss_nil)
  (jss_cons (js_expr (je_meth (c := "Stock") h_Stock_come (takes_of rfl rfl rfl rfl) (hr.mono (by decide)) (cl_Stock KX Gn c) (mt_Stock_come KX Gn c) (je_var 0) (ja_cons (je_var 1) (ja_cons (je_var 4) ja_nil))))
  (jss_cons (js_expr (je_pop0 (je_fld (fl_came KX Gn c) (je_var 0))))
  (jss_one (js_ret (je_var 4)))))))))
theorem fn_Stock_go {M_part : DF} (h_part : FnD P w K mg base (GK K) 1 (He.fAd K ("part", none)) 2 M_part) {M_rounded : DF} (h_rounded : FnD P w K mg base (GK K) 1 (He.fAd K ("rounded", none)) 2 M_rounded) {M_Stock_there : DF} (h_Stock_there : FnD P w K mg base (GK K) 4 (He.fAd K ("Stock", some "there")) 1 M_Stock_there) (sup_Short : SupC K P ((GK K).cA "Short") "lacking") : FnD P w K mg base (GK K) 5 (He.fAd K ("Stock", some "go")) 2 (runD 9 (f_Stock_go M_part M_rounded M_Stock_there)) := by
  obtain ⟨fd, F0⟩ := c.def_ 6 (d := d_Stock_go) rfl
  have F : FunD K "go" "Stock.go" (defArgs s_Stock_go) (defBody s_Stock_go) (defScope s_Stock_go) [] [] (He.fAd K ("Stock", some "go")) fd := F0
  have b : Binds K fd ["self", "count"] [] := F.bindsN fun _ _ _ _ _ _ us hl => match us, hl with | [_, _], _ => rfl
  exact fnD_of F sc_Stock_go b fun cdv A outer s H E hl hcd hr => (jss_cons (js_set 2 sc_Stock_go.nd (je_meth0 (c := "Stock") h_Stock_there (takes_of rfl rfl rfl rfl) (hr.mono (by decide)) (cl_Stock KX Gn c) (mt_Stock_there KX Gn c) (je_var 0)))
  (jss_cons (js_if (jt_cmp jop_lt (je_var 1) je_int)
  (jss_one (js_raise (c := "BadRule") rfl (takes_of rfl rfl rfl rfl) PySem.F.excBase_ValueError (x_BadRule KX Gn c).1 (g_BadRule KX Gn c) (x_BadRule KX Gn c).2.1 (raises_own (x_BadRule KX Gn c).2.2.1 (x_BadRule KX Gn c).2.2.2)))
  jss_nil)
  (jss_cons (js_if (jt_cmp jop_gt (je_var 1) (je_var 2))
  (jss_one (js_raiseI (c := "Short") (fld := "lacking") (k := 0) rfl (takes_of rfl rfl rfl rfl) sup_Short (hr.mono (by decide)) (g_Short KX Gn c) (z_super KX Gn c) (je_op jop_sub (je_var 1) (je_var 2))))
  jss_nil)
  (jss_cons (js_par2 3 4 rfl sc_Stock_go.nd (ja_cons (je_var 1) (ja_cons je_int ja_nil)))
  (jss_cons (js_while (passes_of rfl) (jt_cmp jop_gt (je_var 3) je_int) (jss_cons (js_set 5 sc_Stock_go.nd (je_if (jt_cmp (jop_eq hr.units) (je_fld (fl_way KX Gn c) (je_var 0)) je_str) (je_neg je_int) je_int))
  (jss_cons (js_asg (je_ix (je_fld (fl_lots KX Gn c) (je_var 0)) (je_var 5)) (jg_tup rfl (jgs_cons (jg_name 6 sc_Stock_go.nd) (jgs_cons (jg_name 7 sc_Stock_go.nd) jgs_nil))))
  (jss_one (js_if (jt_cmp jop_le (je_var 6) (je_var 3))
  (jss_cons (js_aug 4 sc_Stock_go.nd jip_add (je_var 7))
  (jss_cons (js_aug 3 sc_Stock_go.nd jip_sub (je_var 6))
  (jss_one (js_expr (je_pop1 (je_fld (fl_lots KX Gn c) (je_var 0)) (je_var 5))))))
  (jss_cons (js_set 8 sc_Stock_go.nd (je_call h_rounded (takes_of rfl rfl rfl rfl) (hr.mono (by decide)) (g_rounded KX Gn c) (ja_cons (je_call h_part (takes_of rfl rfl rfl rfl) (hr.mono (by decide)) (g_part KX Gn c) (ja_cons (je_op jop_mul (je_var 7) (je_var 3)) (ja_cons (je_var 6) ja_nil))) (ja_cons je_str ja_nil))))
  (jss_cons (js_aug 4 sc_Stock_go.nd jip_add (je_var 8))
  (jss_cons (js_asg (je_tup (ja_cons (je_op jop_sub (je_var 6) (je_var 3)) (ja_cons (je_op jop_sub (je_var 7) (je_var 8)) ja_nil))) (jg_ix (je_fld (fl_lots KX Gn c) (je_var 0)) (je_var 5)))
  (jss_one (js_set 3 sc_Stock_go.nd je_int))))))))))
  (jss_cons (js_expr (je_app (je_fld (fl_gone KX Gn c) (je_var 0)) (je_tup (ja_cons (je_var 1) (ja_cons (je_var 4) ja_nil)))))
  (jss_one (js_ret (je_var 4)))))))))
theorem fn__law_stock {M_Stock_look : DF} (h_Stock_look : FnD P w K mg base (GK K) 5 (He.fAd K ("Stock", some "look")) 1 M_Stock_look) {M_Stock_worth : DF} (h_Stock_worth : FnD P w K mg base (GK K) 4 (He.fAd K ("Stock", some "worth")) 1 M_Stock_worth) {M_Stock_lowered : DF} (h_Stock_lowered : FnD P w K mg base (GK K) 5 (He.fAd K ("Stock", some "lowered")) 2 M_Stock_lowered) {M__law_roll : DF} (h__law_roll : FnD P w K mg base (GK K) 1 (He.fAd K ("_law_roll", none)) 2 M__law_roll) {M_Stock_come_back : DF} (h_Stock_come_back : FnD P w K mg base (GK K) 2 (He.fAd K ("Stock", some "come_back")) 2 M_Stock_come_back) {M_Stock_there : DF} (h_Stock_there : FnD P w K mg base (GK K) 4 (He.fAd K ("Stock", some "there")) 1 M_Stock_there) {M_Stock_come : DF} (h_Stock_come : FnD P w K mg base (GK K) 1 (He.fAd K ("Stock", some "come")) 3 M_Stock_come) {M_Stock_go : DF} (h_Stock_go : FnD P w K mg base (GK K) 5 (He.fAd K ("Stock", some "go")) 2 M_Stock_go) {M__law_cut : DF} (h__law_cut : FnD P w K mg base (GK K) 1 (He.fAd K ("_law_cut", none)) 3 M__law_cut) {M_Stock___init__ : DF} (h_Stock___init__ : FnD P w K mg base (GK K) 1 (He.fAd K ("Stock", some "__init__")) 2 M_Stock___init__) (tb : ∀ p ∈ tf, LamX.TabB base mg (He.cT K p).1 (He.cT K p).2) (nd2 : (tf.map fun p => (He.cT K p).2).Nodup) : FnD P w K mg base (GK K) 8 (He.fAd K ("_law_stock", none)) 1 (runD 15 (f__law_stock M_Stock_look M_Stock_worth M_Stock_lowered M__law_roll M_Stock_come_back M_Stock_there M_Stock_come M_Stock_go M__law_cut M_Stock___init__)) := by
  obtain ⟨fd, F0⟩ := c.def_ 37 (d := d__law_stock) rfl
  have F : FunD K "_law_stock" "_law_stock" (defArgs s__law_stock) (defBody s__law_stock) (defScope s__law_stock) [] [] (He.fAd K ("_law_stock", none)) fd := F0
  have b : Binds K fd ["dice"] [] := F.bindsN fun _ _ _ _ _ _ us hl => match us, hl with | [_], _ => rfl
  obtain ⟨fdT, FT0⟩ := c.def_ 35 (d := d__law_told) rfl
  have FT : FunD K "_law_told" "_law_told" (defArgs s__law_told) (defBody s__law_told) (defScope s__law_told) [] [] (He.fAd K ("_law_told", none)) fdT := FT0
  have bT : Binds K fdT ["what"] [] := FT.bindsN fun _ _ _ _ _ _ us hl => match us, hl with | [_], _ => rfl
  have kT := FT.kp
  obtain ⟨ocT, odT, dVT, kVT, docT, pmT, anT, cdT, ctT, oslT, rfl, lkT, hcT, _, _⟩ := FT.ex
  have hu : ∀ p ∈ (GK K).T, p.1 = (He.cT K ("_law_stock", none)).2 → p.2 = (("_law_stock" : Str) ++ (".<locals>." : Str)) ++ ("<lambda>" : Str) := by
    have n2 := nd2
    simp only [tf, List.map_cons, List.map_nil, List.nodup_cons, List.mem_cons, List.not_mem_nil, or_false, not_or] at n2
    intro p hp e
    simp only [GK, List.mem_cons, List.not_mem_nil, or_false] at hp
    rcases hp with rfl | rfl | rfl | rfl | rfl | rfl | rfl | rfl | rfl | rfl | rfl
    · exfalso; simp_all
    · exfalso; simp_all
    · exfalso; simp_all
    · exfalso; simp_all
    · exfalso; simp_all
    · exfalso; simp_all
    · exfalso; simp_all
    · exfalso; simp_all
    · rfl
    · exfalso; simp_all
    · exfalso; simp_all
  refine fnD_of F sc__law_stock b fun cdv A outer s H E hl hcd hr => ?_
  have ec := code_is (p := ("_law_stock", none)) hl hcd
  subst ec
  exact (jss_cons (js_set 1 sc__law_stock.nd (je_ix (je_lst (ja_cons je_str (ja_cons je_str (ja_cons je_str ja_nil)))) (je_call h__law_roll (takes_of rfl rfl rfl rfl) (hr.mono (by decide)) (g__law_roll KX Gn c) (ja_cons (je_var 0) (ja_cons je_int ja_nil)))))
  (jss_cons (js_asg (je_tup (ja_cons (je_make (c := "Stock") h_Stock___init__ (mk_Stock KX Gn c) (takes_of rfl rfl rfl rfl) (hr.mono (by decide)) (g_Stock KX Gn c) (ja_cons (je_var 1) ja_nil)) (ja_cons (je_lst ja_nil) ja_nil))) (jg_tup rfl (jgs_cons (jg_name 2 sc__law_stock.nd) (jgs_cons (jg_name 3 sc__law_stock.nd) jgs_nil))))
  (jss_cons (js_for (passes_of rfl) rfl (ji_range1 (z_range KX Gn c) (je_call h__law_roll (takes_of rfl rfl rfl rfl) (hr.mono (by decide)) (g__law_roll KX Gn c) (ja_cons (je_var 0) (ja_cons je_int ja_nil)))) (jg_name 4 sc__law_stock.nd)
  (jss_cons (js_asg (je_tup (ja_cons (je_op jop_add je_int (je_call h__law_roll (takes_of rfl rfl rfl rfl) (hr.mono (by decide)) (g__law_roll KX Gn c) (ja_cons (je_var 0) (ja_cons je_int ja_nil)))) (ja_cons (je_call h__law_roll (takes_of rfl rfl rfl rfl) (hr.mono (by decide)) (g__law_roll KX Gn c) (ja_cons (je_var 0) (ja_cons je_int ja_nil))) ja_nil))) (jg_tup rfl (jgs_cons (jg_name 5 sc__law_stock.nd) (jgs_cons (jg_name 6 sc__law_stock.nd) jgs_nil))))
  (jss_cons (js_if (jt_cmp jop_gt (je_call h__law_roll (takes_of rfl rfl rfl rfl) (hr.mono (by decide)) (g__law_roll KX Gn c) (ja_cons (je_var 0) (ja_cons je_int ja_nil))) je_int)
  (jss_cons (js_expr (je_meth (c := "Stock") h_Stock_come (takes_of rfl rfl rfl rfl) (hr.mono (by decide)) (cl_Stock KX Gn c) (mt_Stock_come KX Gn c) (je_var 2) (ja_cons (je_var 5) (ja_cons (je_var 6) ja_nil))))
  (jss_one (js_set 3 sc__law_stock.nd (je_if (jt_of (jw_and (jt_cmp (jop_eq hr.units) (je_var 1) je_str) (jw_and1 (jt_cmp (jop_ne hr.units) (je_var 3) (je_lst ja_nil))))) (je_lst (ja_cons (je_tup (ja_cons (je_op jop_add (je_ix (je_ix (je_var 3) je_int) je_int) (je_var 5)) (ja_cons (je_op jop_add (je_ix (je_ix (je_var 3) je_int) je_int) (je_var 6)) ja_nil))) ja_nil)) (je_op jop_add (je_var 3) (je_lst (ja_cons (je_tup (ja_cons (je_var 5) (ja_cons (je_var 6) ja_nil))) ja_nil)))))))
  (jss_cons (js_set 7 sc__law_stock.nd (je_blt (jb_sumT rfl) (z_sum KX Gn c) PyProof.Rows.boot_sum (ja_cons (je_lc rfl sc__law_stock.nd (blkOk_by (own := [("many", 13), ("much", 14)]) (N := N__law_stock) (sc := defScope s__law_stock) (by decide +kernel)) (ji_seq (je_var 3)) (fun _ _ _ _ _ => (jgv_tup rfl (jgsv_cons (jgv_name 13 sc__law_stock.nd (by decide)) (jgsv_cons (jgv_name 14 sc__law_stock.nd (by decide)) jgsv_nil)))) (fun _ _ _ _ _ => jts_nil) (fun _ _ _ _ _ => (je_var 13))) ja_nil)))
  (jss_cons (js_set 8 sc__law_stock.nd je_str)
  (jss_cons (js_if (jt_cmp jop_le (je_var 5) (je_var 7))
  (jss_one (js_asg (je_call h__law_cut (takes_of rfl rfl rfl rfl) (hr.mono (by decide)) (g__law_cut KX Gn c) (ja_cons (je_var 3) (ja_cons (je_var 5) (ja_cons (je_cmp (jop_eq hr.units) (je_var 1) je_str) ja_nil)))) (jg_tup rfl (jgs_cons (jg_name 8 sc__law_stock.nd) (jgs_cons (jg_name 3 sc__law_stock.nd) jgs_nil)))))
  jss_nil)
  (jss_one (js_if (jt_cmp (jop_ne hr.units) (je_told (k := 5) (rs := raisable) (cs := tellers) (g__law_told KX Gn c) kT lkT hcT bT sc__law_told rfl (Or.inl rfl) (fun _ => rfl) (.cons rfl (g_BadMoney KX Gn c) (by decide) (.cons rfl (g_BadDay KX Gn c) (by decide) (.cons rfl (g_BadRule KX Gn c) (by decide) (.cons rfl (g_Unbalanced KX Gn c) (by decide) (.cons rfl (g_Shut KX Gn c) (by decide) (.cons rfl (g_Short KX Gn c) (by decide) (.cons rfl (g_BadText KX Gn c) (by decide) (.cons rfl (g_NoAnswer KX Gn c) (by decide) (.nil))))))))) (exall KX Gn c) (tb ("_law_stock", none) (List.Mem.tail _ (List.Mem.tail _ (List.Mem.tail _ (List.Mem.tail _ (List.Mem.tail _ (List.Mem.tail _ (List.Mem.tail _ (List.Mem.tail _ (List.Mem.head _)))))))))) rfl (List.Mem.tail _ (List.Mem.tail _ (List.Mem.tail _ (List.Mem.tail _ (List.Mem.tail _ (List.Mem.tail _ (List.Mem.tail _ (List.Mem.tail _ (List.Mem.head _))))))))) hu (hr.mono (by decide)) (LamX.lamS_by (sc := defScope s__law_stock) (by decide +kernel)) rfl (fun _ _ _ _ _ => rfl) (fun A2 outer2 s2 H2 E2 f2 c2 hr2 => (je_meth (c := "Stock") h_Stock_go lam_takes (hr2.mono (by decide)) (cl_Stock KX Gn c) (mt_Stock_go KX Gn c) (je_var 2) (ja_cons (je_var 5) ja_nil)))) (je_var 8))
  (jss_one (js_ret je_bl))
  jss_nil))))))
  (jss_cons (js_if (jt_of (jw_or (jt_cmp (jop_ne hr.units) (je_fld (fl_lots KX Gn c) (je_var 2)) (je_var 3)) (jw_or (jt_not (jt_val (je_meth0 (c := "Stock") h_Stock_look (takes_of rfl rfl rfl rfl) (hr.mono (by decide)) (cl_Stock KX Gn c) (mt_Stock_look KX Gn c) (je_var 2)))) (jw_or1 (jt_cmp (jop_ne hr.units) (je_meth0 (c := "Stock") h_Stock_there (takes_of rfl rfl rfl rfl) (hr.mono (by decide)) (cl_Stock KX Gn c) (mt_Stock_there KX Gn c) (je_var 2)) (je_blt (jb_sumT rfl) (z_sum KX Gn c) PyProof.Rows.boot_sum (ja_cons (je_lc rfl sc__law_stock.nd (blkOk_by (own := [("many", 13), ("much", 14)]) (N := N__law_stock) (sc := defScope s__law_stock) (by decide +kernel)) (ji_seq (je_var 3)) (fun _ _ _ _ _ => (jgv_tup rfl (jgsv_cons (jgv_name 13 sc__law_stock.nd (by decide)) (jgsv_cons (jgv_name 14 sc__law_stock.nd (by decide)) jgsv_nil)))) (fun _ _ _ _ _ => jts_nil) (fun _ _ _ _ _ => (je_var 13))) ja_nil)))))))
  (jss_one (js_ret je_bl))
  jss_nil)
  (jss_one (js_if (jt_cmp (jop_ne hr.units) (je_meth0 (c := "Stock") h_Stock_worth (takes_of rfl rfl rfl rfl) (hr.mono (by decide)) (cl_Stock KX Gn c) (mt_Stock_worth KX Gn c) (je_var 2)) (je_blt (jb_sumT rfl) (z_sum KX Gn c) PyProof.Rows.boot_sum (ja_cons (je_lc rfl sc__law_stock.nd (blkOk_by (own := [("many", 13), ("much", 14)]) (N := N__law_stock) (sc := defScope s__law_stock) (by decide +kernel)) (ji_seq (je_var 3)) (fun _ _ _ _ _ => (jgv_tup rfl (jgsv_cons (jgv_name 13 sc__law_stock.nd (by decide)) (jgsv_cons (jgv_name 14 sc__law_stock.nd (by decide)) jgsv_nil)))) (fun _ _ _ _ _ => jts_nil) (fun _ _ _ _ _ => (je_var 14))) ja_nil)))
  (jss_one (js_ret je_bl))
  jss_nil))))))
  (jss_cons (js_if (jt_cmp (jop_ne hr.units) (je_fld (fl_gone KX Gn c) (je_var 2)) (je_lst ja_nil))
  (jss_cons (js_asg (je_ix (je_fld (fl_gone KX Gn c) (je_var 2)) (je_op jop_sub (je_blt jb_len (z_len KX Gn c) boot_len (ja_cons (je_fld (fl_gone KX Gn c) (je_var 2)) ja_nil)) je_int)) (jg_tup rfl (jgs_cons (jg_name 5 sc__law_stock.nd) (jgs_cons (jg_name 6 sc__law_stock.nd) jgs_nil))))
  (jss_one (js_if (jt_of (jw_or (jt_cmp (jop_ne hr.units) (je_meth (c := "Stock") h_Stock_come_back (takes_of rfl rfl rfl rfl) (hr.mono (by decide)) (cl_Stock KX Gn c) (mt_Stock_come_back KX Gn c) (je_var 2) (ja_cons (je_var 5) ja_nil)) (je_var 6)) (jw_or1 (jt_not (jt_val (je_meth0 (c := "Stock") h_Stock_look (takes_of rfl rfl rfl rfl) (hr.mono (by decide)) (cl_Stock KX Gn c) (mt_Stock_look KX Gn c) (je_var 2)))))))
  (jss_one (js_ret je_bl))
  jss_nil)))
  jss_nil)
  (jss_cons (js_set 9 sc__law_stock.nd (je_call h__law_roll (takes_of rfl rfl rfl rfl) (hr.mono (by decide)) (g__law_roll KX Gn c) (ja_cons (je_var 0) (ja_cons je_int ja_nil))))
  (jss_cons (js_set 10 sc__law_stock.nd (je_meth0 (c := "Stock") h_Stock_worth (takes_of rfl rfl rfl rfl) (hr.mono (by decide)) (cl_Stock KX Gn c) (mt_Stock_worth KX Gn c) (je_var 2)))
  (jss_cons (js_set 11 sc__law_stock.nd (je_meth (c := "Stock") h_Stock_lowered (takes_of rfl rfl rfl rfl) (hr.mono (by decide)) (cl_Stock KX Gn c) (mt_Stock_lowered KX Gn c) (je_var 2) (ja_cons (je_var 9) ja_nil)))
  (jss_one (js_ret (je_and (je_cmp (jop_eq hr.units) (je_meth0 (c := "Stock") h_Stock_worth (takes_of rfl rfl rfl rfl) (hr.mono (by decide)) (cl_Stock KX Gn c) (mt_Stock_worth KX Gn c) (je_var 2)) (je_op jop_sub (je_var 10) (je_var 11))) (je_and (je_cmp jop_ge (je_var 11) je_int) (je_and (je_meth0 (c := "Stock") h_Stock_look (takes_of rfl rfl rfl rfl) (hr.mono (by decide)) (cl_Stock KX Gn c) (mt_Stock_look KX Gn c) (je_var 2)) (je_one (je_cmp (jop_eq hr.units) (je_lc rfl sc__law_stock.nd (blkOk_by (own := [("lot", 12)]) (N := N__law_stock) (sc := defScope s__law_stock) (by decide +kernel)) (ji_seq (je_fld (fl_lots KX Gn c) (je_var 2))) (fun _ _ _ _ _ => (jgv_name 12 sc__law_stock.nd (by decide))) (fun _ _ _ _ _ => (jts_one (jt_cmp jop_gt (je_ix (je_var 12) je_int) (je_op jop_mul (je_var 9) (je_ix (je_var 12) je_int))))) (fun _ _ _ _ _ => (je_var 12))) (je_lst ja_nil)))))))))))))))
theorem fn_how_many  (tb : ∀ p ∈ tf, LamX.TabB base mg (He.cT K p).1 (He.cT K p).2) (nd2 : (tf.map fun p => (He.cT K p).2).Nodup) : FnD P w K mg base (GK K) 4 (He.fAd K ("how_many", none)) 3 (runD 12 (f_how_many)) := by
  obtain ⟨fd, F0⟩ := c.def_ 14 (d := d_how_many) rfl
  have F : FunD K "how_many" "how_many" (defArgs s_how_many) (defBody s_how_many) (defScope s_how_many) [] [] (He.fAd K ("how_many", none)) fd := F0
  have b : Binds K fd ["needs", "ask_price", "keep_price"] [] := F.bindsN fun _ _ _ _ _ _ us hl => match us, hl with | [_, _, _], _ => rfl
  obtain ⟨fdT, FT0⟩ := c.def_ 35 (d := d__law_told) rfl
  have FT : FunD K "_law_told" "_law_told" (defArgs s__law_told) (defBody s__law_told) (defScope s__law_told) [] [] (He.fAd K ("_law_told", none)) fdT := FT0
  have bT : Binds K fdT ["what"] [] := FT.bindsN fun _ _ _ _ _ _ us hl => match us, hl with | [_], _ => rfl
  have kT := FT.kp
  obtain ⟨ocT, odT, dVT, kVT, docT, pmT, anT, cdT, ctT, oslT, rfl, lkT, hcT, _, _⟩ := FT.ex
  have hu : ∀ p ∈ (GK K).T, p.1 = (He.cT K ("how_many", none)).2 → p.2 = (("how_many" : Str) ++ (".<locals>." : Str)) ++ ("<genexpr>" : Str) := by
    have n2 := nd2
    simp only [tf, List.map_cons, List.map_nil, List.nodup_cons, List.mem_cons, List.not_mem_nil, or_false, not_or] at n2
    intro p hp e
    simp only [GK, List.mem_cons, List.not_mem_nil, or_false] at hp
    rcases hp with rfl | rfl | rfl | rfl | rfl | rfl | rfl | rfl | rfl | rfl | rfl
    · exfalso; simp_all
    · exfalso; simp_all
    · exfalso; simp_all
    · exfalso; simp_all
    · rfl
    · exfalso; simp_all
    · exfalso; simp_all
    · exfalso; simp_all
    · exfalso; simp_all
    · exfalso; simp_all
    · exfalso; simp_all
  refine fnD_of F sc_how_many b fun cdv A outer s H E hl hcd hr => ?_
  have ec := code_is (p := ("how_many", none)) hl hcd
  subst ec
  exact (jss_cons (js_set 3 sc_how_many.nd (je_blt jb_len (z_len KX Gn c) boot_len (ja_cons (je_var 0) ja_nil)))
  (jss_cons (js_set 4 sc_how_many.nd (je_op jop_add (je_lst (ja_cons (je_tup (ja_cons je_int (ja_cons (je_tup ja_nil) ja_nil))) ja_nil)) (je_op jop_mul2 (je_lst (ja_cons je_non ja_nil)) (je_var 3))))
  (jss_cons (js_for (passes_of rfl) rfl (ji_range2 (z_range KX Gn c) je_int (je_op jop_add (je_var 3) je_int)) (jg_name 5 sc_how_many.nd)
  (jss_one (js_for (passes_of rfl) rfl (ji_range1 (z_range KX Gn c) (je_var 5)) (jg_name 6 sc_how_many.nd)
  (jss_cons (js_set 7 sc_how_many.nd (je_sumX (k := 0) (c := (He.cT K ("how_many", none)).1) (P := (He.cT K ("how_many", none)).2) (hr.mono (by decide)) (z_sum KX Gn c) (tb ("how_many", none) (List.Mem.tail _ (List.Mem.tail _ (List.Mem.tail _ (List.Mem.tail _ (List.Mem.head _)))))) rfl (List.Mem.tail _ (List.Mem.tail _ (List.Mem.tail _ (List.Mem.tail _ (List.Mem.head _))))) hu sc_how_many.nd (genB_by (N := N_how_many) (sc := defScope s_how_many) (own := [("k", 11)]) (by decide +kernel)) (ji_range2 (z_range KX Gn c) (je_var 6) (je_var 5)) (fun _ _ _ _ hrg => (jgv_name 11 sc_how_many.nd (by decide))) (fun _ _ _ _ hrg => jts_nil) (fun _ _ _ _ hrg => (je_op jop_mul (je_ix (je_var 0) (je_var 11)) (je_op jop_sub (je_var 11) (je_var 6))))))
  (jss_cons (js_set 8 sc_how_many.nd (je_blt (jb_sumT rfl) (z_sum KX Gn c) PyProof.Rows.boot_sum (ja_cons (je_slice (je_var 0) (jp_some (je_var 6)) (jp_some (je_var 5))) ja_nil)))
  (jss_cons (js_set 9 sc_how_many.nd (je_op jop_add (je_op jop_add (je_ix (je_ix (je_var 4) (je_var 6)) je_int) (je_if (jt_cmp jop_gt (je_var 8) je_int) (je_var 1) je_int)) (je_op jop_mul (je_var 2) (je_var 7))))
  (jss_cons (js_set 10 sc_how_many.nd (je_op jop_add (je_op jop_add (je_ix (je_ix (je_var 4) (je_var 6)) je_int) (je_tup (ja_cons (je_var 8) ja_nil))) (je_op jop_mul (je_tup (ja_cons je_int ja_nil)) (je_op jop_sub (je_op jop_sub (je_var 5) (je_var 6)) je_int))))
  (jss_one (js_if (jt_of (jw_or (jt_cmp jop_isN (je_ix (je_var 4) (je_var 5)) je_non) (jw_or1 (jt_cmp jop_lt (je_var 9) (je_ix (je_ix (je_var 4) (je_var 5)) je_int)))))
  (jss_one (js_asg (je_tup (ja_cons (je_var 9) (ja_cons (je_var 10) ja_nil))) (jg_ix (je_var 4) (je_var 5))))
  jss_nil)))))))))
  (jss_one (js_ret (je_ix (je_var 4) (je_var 3)))))))
theorem fn_look_asked  (sup_Short : SupC K P ((GK K).cA "Short") "lacking") : FnD P w K mg base (GK K) 2 (He.fAd K ("look_asked", none)) 4 (runD 8 (f_look_asked)) := by
  obtain ⟨fd, F0⟩ := c.def_ 15 (d := d_look_asked) rfl
  have F : FunD K "look_asked" "look_asked" (defArgs s_look_asked) (defBody s_look_asked) (defScope s_look_asked) [] [] (He.fAd K ("look_asked", none)) fd := F0
  have b : Binds K fd ["needs", "ask_price", "keep_price", "counts"] [] := F.bindsN fun _ _ _ _ _ _ us hl => match us, hl with | [_, _, _, _], _ => rfl
  exact fnD_of F sc_look_asked b fun cdv A outer s H E hl hcd hr => (jss_cons (js_asg (je_tup (ja_cons je_int (ja_cons je_int ja_nil))) (jg_tup rfl (jgs_cons (jg_name 4 sc_look_asked.nd) (jgs_cons (jg_name 5 sc_look_asked.nd) jgs_nil))))
  (jss_cons (js_for (passes_of rfl) rfl (ji_zip (z_zip KX Gn c) (je_var 0) (je_var 3)) (jg_tup rfl (jgs_cons (jg_name 6 sc_look_asked.nd) (jgs_cons (jg_name 7 sc_look_asked.nd) jgs_nil)))
  (jss_cons (js_aug 4 sc_look_asked.nd jip_add (je_var 7))
  (jss_cons (js_aug 5 sc_look_asked.nd jip_add (je_if (jt_cmp jop_gt (je_var 7) je_int) (je_var 1) je_int))
  (jss_cons (js_if (jt_cmp jop_lt (je_var 4) (je_var 6))
  (jss_one (js_raiseI (c := "Short") (fld := "lacking") (k := 0) rfl (takes_of rfl rfl rfl rfl) sup_Short (hr.mono (by decide)) (g_Short KX Gn c) (z_super KX Gn c) (je_op jop_sub (je_var 6) (je_var 4))))
  jss_nil)
  (jss_cons (js_aug 4 sc_look_asked.nd jip_sub (je_var 6))
  (jss_one (js_aug 5 sc_look_asked.nd jip_add (je_op jop_mul (je_var 2) (je_var 4)))))))))
  (jss_one (js_ret (je_var 5)))))
theorem fn_when_to_ask  : FnD P w K mg base (GK K) 1 (He.fAd K ("when_to_ask", none)) 4 (runD 7 (f_when_to_ask)) := by
  obtain ⟨fd, F0⟩ := c.def_ 13 (d := d_when_to_ask) rfl
  have F : FunD K "when_to_ask" "when_to_ask" (defArgs s_when_to_ask) (defBody s_when_to_ask) (defScope s_when_to_ask) [] [] (He.fAd K ("when_to_ask", none)) fd := F0
  have b : Binds K fd ["uses", "there", "wait", "least"] [] := F.bindsN fun _ _ _ _ _ _ us hl => match us, hl with | [_, _, _, _], _ => rfl
  exact fnD_of F sc_when_to_ask b fun cdv A outer s H E hl hcd hr => (jss_cons (js_set 4 sc_when_to_ask.nd (je_var 1))
  (jss_cons (js_for (passes_of rfl) rfl (ji_range1 (z_range KX Gn c) (je_blt jb_len (z_len KX Gn c) boot_len (ja_cons (je_var 0) ja_nil))) (jg_name 5 sc_when_to_ask.nd)
  (jss_cons (js_set 6 sc_when_to_ask.nd (je_blt (jb_sumT rfl) (z_sum KX Gn c) PyProof.Rows.boot_sum (ja_cons (je_slice (je_var 0) (jp_some (je_var 5)) (jp_some (je_op jop_add (je_var 5) (je_var 2)))) ja_nil)))
  (jss_cons (js_if (jt_cmp jop_lt (je_op jop_sub (je_var 4) (je_var 6)) (je_var 3))
  (jss_one (js_ret (je_var 5)))
  jss_nil)
  (jss_one (js_aug 4 sc_when_to_ask.nd jip_sub (je_ix (je_var 0) (je_var 5)))))))
  (jss_one (js_ret je_non))))
theorem fn__law_asked {M_when_to_ask : DF} (h_when_to_ask : FnD P w K mg base (GK K) 1 (He.fAd K ("when_to_ask", none)) 4 M_when_to_ask) {M_look_asked : DF} (h_look_asked : FnD P w K mg base (GK K) 2 (He.fAd K ("look_asked", none)) 4 M_look_asked) {M_how_many : DF} (h_how_many : FnD P w K mg base (GK K) 4 (He.fAd K ("how_many", none)) 3 M_how_many) {M__law_roll : DF} (h__law_roll : FnD P w K mg base (GK K) 1 (He.fAd K ("_law_roll", none)) 2 M__law_roll) (tb : ∀ p ∈ tf, LamX.TabB base mg (He.cT K p).1 (He.cT K p).2) (nd2 : (tf.map fun p => (He.cT K p).2).Nodup) : FnD P w K mg base (GK K) 5 (He.fAd K ("_law_asked", none)) 1 (runD 14 (f__law_asked M_when_to_ask M_look_asked M_how_many M__law_roll)) := by
  obtain ⟨fd, F0⟩ := c.def_ 38 (d := d__law_asked) rfl
  have F : FunD K "_law_asked" "_law_asked" (defArgs s__law_asked) (defBody s__law_asked) (defScope s__law_asked) [] [] (He.fAd K ("_law_asked", none)) fd := F0
  have b : Binds K fd ["dice"] [] := F.bindsN fun _ _ _ _ _ _ us hl => match us, hl with | [_], _ => rfl
  obtain ⟨fdT, FT0⟩ := c.def_ 35 (d := d__law_told) rfl
  have FT : FunD K "_law_told" "_law_told" (defArgs s__law_told) (defBody s__law_told) (defScope s__law_told) [] [] (He.fAd K ("_law_told", none)) fdT := FT0
  have bT : Binds K fdT ["what"] [] := FT.bindsN fun _ _ _ _ _ _ us hl => match us, hl with | [_], _ => rfl
  have kT := FT.kp
  obtain ⟨ocT, odT, dVT, kVT, docT, pmT, anT, cdT, ctT, oslT, rfl, lkT, hcT, _, _⟩ := FT.ex
  have hu : ∀ p ∈ (GK K).T, p.1 = (He.cT K ("_law_asked", none)).2 → p.2 = (("_law_asked" : Str) ++ (".<locals>." : Str)) ++ ("<lambda>" : Str) := by
    have n2 := nd2
    simp only [tf, List.map_cons, List.map_nil, List.nodup_cons, List.mem_cons, List.not_mem_nil, or_false, not_or] at n2
    intro p hp e
    simp only [GK, List.mem_cons, List.not_mem_nil, or_false] at hp
    rcases hp with rfl | rfl | rfl | rfl | rfl | rfl | rfl | rfl | rfl | rfl | rfl
    · exfalso; simp_all
    · exfalso; simp_all
    · exfalso; simp_all
    · exfalso; simp_all
    · exfalso; simp_all
    · exfalso; simp_all
    · exfalso; simp_all
    · exfalso; simp_all
    · exfalso; simp_all
    · rfl
    · exfalso; simp_all
  refine fnD_of F sc__law_asked b fun cdv A outer s H E hl hcd hr => ?_
  have ec := code_is (p := ("_law_asked", none)) hl hcd
  subst ec
  exact (jss_cons (js_asg (je_tup (ja_cons (je_lc rfl sc__law_asked.nd (blkOk_by (own := [("k", 10)]) (N := N__law_asked) (sc := defScope s__law_asked) (by decide +kernel)) (ji_range1 (z_range KX Gn c) je_int) (fun _ _ _ _ _ => (jgv_name 10 sc__law_asked.nd (by decide))) (fun _ _ _ _ _ => jts_nil) (fun _ _ _ _ _ => (je_call h__law_roll takes0 (hr.mono (by decide)) (g__law_roll KX Gn c) (ja_cons (je_var 0) (ja_cons je_int ja_nil))))) (ja_cons (je_op jop_add je_int (je_call h__law_roll (takes_of rfl rfl rfl rfl) (hr.mono (by decide)) (g__law_roll KX Gn c) (ja_cons (je_var 0) (ja_cons je_int ja_nil)))) (ja_cons (je_op jop_add je_int (je_call h__law_roll (takes_of rfl rfl rfl rfl) (hr.mono (by decide)) (g__law_roll KX Gn c) (ja_cons (je_var 0) (ja_cons je_int ja_nil)))) ja_nil)))) (jg_tup rfl (jgs_cons (jg_name 1 sc__law_asked.nd) (jgs_cons (jg_name 2 sc__law_asked.nd) (jgs_cons (jg_name 3 sc__law_asked.nd) jgs_nil)))))
  (jss_cons (js_asg (je_call h_how_many (takes_of rfl rfl rfl rfl) (hr.mono (by decide)) (g_how_many KX Gn c) (ja_cons (je_var 1) (ja_cons (je_var 2) (ja_cons (je_var 3) ja_nil)))) (jg_tup rfl (jgs_cons (jg_name 4 sc__law_asked.nd) (jgs_cons (jg_name 5 sc__law_asked.nd) jgs_nil))))
  (jss_cons (js_set 6 sc__law_asked.nd je_non)
  (jss_cons (js_for (passes_of rfl) rfl (ji_range1 (z_range KX Gn c) je_int) (jg_name 7 sc__law_asked.nd)
  (jss_cons (js_set 8 sc__law_asked.nd (je_lst (ja_cons (je_op jop_mod (je_op jop_fdiv (je_var 7) je_int) je_int) (ja_cons (je_op jop_mod (je_op jop_fdiv (je_var 7) je_int) je_int) (ja_cons (je_op jop_mod (je_op jop_fdiv (je_var 7) je_int) je_int) (ja_cons (je_op jop_mod (je_var 7) je_int) ja_nil))))))
  (jss_cons (js_par2 9 10 rfl sc__law_asked.nd (ja_cons (je_lst (ja_cons je_int (ja_cons je_int (ja_cons je_int (ja_cons je_int ja_nil))))) (ja_cons je_non ja_nil)))
  (jss_cons (js_set 11 sc__law_asked.nd je_bl)
  (jss_cons (js_for (passes_of rfl) rfl (ji_range1 (z_range KX Gn c) je_int) (jg_name 12 sc__law_asked.nd)
  (jss_cons (js_set 10 sc__law_asked.nd (je_if (jt_cmp (jop_eq hr.units) (je_ix (je_var 8) (je_var 12)) je_int) (je_var 12) (je_var 10)))
  (jss_one (js_if (jt_cmp jop_isN (je_var 10) je_non)
  (jss_one (js_set 11 sc__law_asked.nd (je_and (je_var 11) (je_one (je_cmp (jop_eq hr.units) (je_ix (je_var 1) (je_var 12)) je_int)))))
  (jss_one (js_asg (je_op jop_add (je_ix (je_var 9) (je_var 10)) (je_ix (je_var 1) (je_var 12))) (jg_ix (je_var 9) (je_var 10))))))))
  (jss_one (js_if (jt_val (je_var 11))
  (jss_cons (js_set 13 sc__law_asked.nd (je_call h_look_asked (takes_of rfl rfl rfl rfl) (hr.mono (by decide)) (g_look_asked KX Gn c) (ja_cons (je_var 1) (ja_cons (je_var 2) (ja_cons (je_var 3) (ja_cons (je_var 9) ja_nil))))))
  (jss_one (js_set 6 sc__law_asked.nd (je_if (jt_of (jw_or (jt_cmp jop_isN (je_var 6) je_non) (jw_or1 (jt_cmp jop_lt (je_var 13) (je_var 6))))) (je_var 13) (je_var 6)))))
  jss_nil)))))))
  (jss_cons (js_if (jt_of (jw_or (jt_cmp (jop_ne hr.units) (je_var 4) (je_var 6)) (jw_or (jt_cmp (jop_ne hr.units) (je_call h_look_asked (takes_of rfl rfl rfl rfl) (hr.mono (by decide)) (g_look_asked KX Gn c) (ja_cons (je_var 1) (ja_cons (je_var 2) (ja_cons (je_var 3) (ja_cons (je_var 5) ja_nil))))) (je_var 4)) (jw_or1 (jt_cmp (jop_ne hr.units) (je_blt (jb_sumT rfl) (z_sum KX Gn c) PyProof.Rows.boot_sum (ja_cons (je_var 5) ja_nil)) (je_blt (jb_sumT rfl) (z_sum KX Gn c) PyProof.Rows.boot_sum (ja_cons (je_var 1) ja_nil)))))))
  (jss_one (js_ret je_bl))
  jss_nil)
  (jss_cons (js_if (jt_of (jw_and (jt_cmp jop_gt (je_blt (jb_sumT rfl) (z_sum KX Gn c) PyProof.Rows.boot_sum (ja_cons (je_var 1) ja_nil)) je_int) (jw_and1 (jt_cmp (jop_ne hr.units) (je_told (k := 2) (rs := raisable) (cs := tellers) (g__law_told KX Gn c) kT lkT hcT bT sc__law_told rfl (Or.inl rfl) (fun _ => rfl) (.cons rfl (g_BadMoney KX Gn c) (by decide) (.cons rfl (g_BadDay KX Gn c) (by decide) (.cons rfl (g_BadRule KX Gn c) (by decide) (.cons rfl (g_Unbalanced KX Gn c) (by decide) (.cons rfl (g_Shut KX Gn c) (by decide) (.cons rfl (g_Short KX Gn c) (by decide) (.cons rfl (g_BadText KX Gn c) (by decide) (.cons rfl (g_NoAnswer KX Gn c) (by decide) (.nil))))))))) (exall KX Gn c) (tb ("_law_asked", none) (List.Mem.tail _ (List.Mem.tail _ (List.Mem.tail _ (List.Mem.tail _ (List.Mem.tail _ (List.Mem.tail _ (List.Mem.tail _ (List.Mem.tail _ (List.Mem.tail _ (List.Mem.head _))))))))))) rfl (List.Mem.tail _ (List.Mem.tail _ (List.Mem.tail _ (List.Mem.tail _ (List.Mem.tail _ (List.Mem.tail _ (List.Mem.tail _ (List.Mem.tail _ (List.Mem.tail _ (List.Mem.head _)))))))))) hu (hr.mono (by decide)) (LamX.lamS_by (sc := defScope s__law_asked) (by decide +kernel)) rfl (fun _ _ _ _ _ => rfl) (fun A2 outer2 s2 H2 E2 f2 c2 hr2 => (je_call h_look_asked lam_takes (hr2.mono (by decide)) (g_look_asked KX Gn c) (ja_cons (je_var 1) (ja_cons (je_var 2) (ja_cons (je_var 3) (ja_cons (je_tup (ja_cons je_int (ja_cons je_int (ja_cons je_int (ja_cons je_int ja_nil))))) ja_nil))))))) je_str))))
  (jss_one (js_ret je_bl))
  jss_nil)
  (jss_one (js_ret (je_and (je_cmp (jop_eq hr.units) (je_call h_when_to_ask (takes_of rfl rfl rfl rfl) (hr.mono (by decide)) (g_when_to_ask KX Gn c) (ja_cons (je_tup (ja_cons je_int (ja_cons je_int (ja_cons je_int (ja_cons je_int ja_nil))))) (ja_cons je_int (ja_cons je_int (ja_cons je_int ja_nil))))) je_int) (je_one (je_cmp jop_isN (je_call h_when_to_ask (takes_of rfl rfl rfl rfl) (hr.mono (by decide)) (g_when_to_ask KX Gn c) (ja_cons (je_tup (ja_cons je_int (ja_cons je_int ja_nil))) (ja_cons je_int (ja_cons je_int (ja_cons je_int ja_nil))))) je_non)))))))))))
theorem fn_times {M_part : DF} (h_part : FnD P w K mg base (GK K) 1 (He.fAd K ("part", none)) 2 M_part) : FnD P w K mg base (GK K) 2 (He.fAd K ("times", none)) 2 (runD 2 (f_times M_part)) := by
  obtain ⟨fd, F0⟩ := c.def_ 1 (d := d_times) rfl
  have F : FunD K "times" "times" (defArgs s_times) (defBody s_times) (defScope s_times) [] [] (He.fAd K ("times", none)) fd := F0
  have b : Binds K fd ["a", "b"] [] := F.bindsN fun _ _ _ _ _ _ us hl => match us, hl with | [_, _], _ => rfl
  exact fnD_of F sc_times b fun cdv A outer s H E hl hcd hr => (jss_one (js_ret (je_call h_part (takes_of rfl rfl rfl rfl) (hr.mono (by decide)) (g_part KX Gn c) (ja_cons (je_op jop_mul (je_ix (je_var 0) je_int) (je_ix (je_var 1) je_int)) (ja_cons (je_op jop_mul (je_ix (je_var 0) je_int) (je_ix (je_var 1) je_int)) ja_nil)))))
theorem fn_falling {M_times : DF} (h_times : FnD P w K mg base (GK K) 2 (He.fAd K ("times", none)) 2 M_times) {M_rounded : DF} (h_rounded : FnD P w K mg base (GK K) 1 (He.fAd K ("rounded", none)) 2 M_rounded) {M_check_thing : DF} (h_check_thing : FnD P w K mg base (GK K) 1 (He.fAd K ("check_thing", none)) 3 M_check_thing) : FnD P w K mg base (GK K) 3 (He.fAd K ("falling", none)) 4 (runD 8 (f_falling M_times M_rounded M_check_thing)) := by
  obtain ⟨fd, F0⟩ := c.def_ 18 (d := d_falling) rfl
  have F : FunD K "falling" "falling" (defArgs s_falling) (defBody s_falling) (defScope s_falling) [] [] (He.fAd K ("falling", none)) fd := F0
  have b : Binds K fd ["cost", "rest", "years", "much"] [] := F.bindsN fun _ _ _ _ _ _ us hl => match us, hl with | [_, _, _, _], _ => rfl
  exact fnD_of F sc_falling b fun cdv A outer s H E hl hcd hr => (jss_cons (js_expr (je_call h_check_thing (takes_of rfl rfl rfl rfl) (hr.mono (by decide)) (g_check_thing KX Gn c) (ja_cons (je_var 0) (ja_cons (je_var 1) (ja_cons (je_var 2) ja_nil)))))
  (jss_cons (js_if (jt_not (jt_chain jop_lt jop_lt je_int (je_ix (je_var 3) je_int) (je_ix (je_var 3) je_int)))
  (jss_one (js_raise (c := "BadRule") rfl (takes_of rfl rfl rfl rfl) PySem.F.excBase_ValueError (x_BadRule KX Gn c).1 (g_BadRule KX Gn c) (x_BadRule KX Gn c).2.1 (raises_own (x_BadRule KX Gn c).2.2.1 (x_BadRule KX Gn c).2.2.2)))
  jss_nil)
  (jss_cons (js_par2 4 5 rfl sc_falling.nd (ja_cons (je_lst ja_nil) (ja_cons (je_var 0) ja_nil)))
  (jss_cons (js_for (passes_of rfl) rfl (ji_range1 (z_range KX Gn c) (je_var 2)) (jg_name 6 sc_falling.nd)
  (jss_cons (js_set 7 sc_falling.nd (je_if (jt_cmp jop_lt (je_var 6) (je_op jop_sub (je_var 2) je_int)) (je_call h_rounded (takes_of rfl rfl rfl rfl) (hr.mono (by decide)) (g_rounded KX Gn c) (ja_cons (je_call h_times (takes_of rfl rfl rfl rfl) (hr.mono (by decide)) (g_times KX Gn c) (ja_cons (je_tup (ja_cons (je_var 5) (ja_cons je_int ja_nil))) (ja_cons (je_var 3) ja_nil))) (ja_cons je_str ja_nil))) (je_op jop_sub (je_var 5) (je_var 1))))
  (jss_cons (js_set 7 sc_falling.nd (je_blt (jb_max rfl) (z_max KX Gn c) boot_max (ja_cons je_int (ja_cons (je_blt (jb_min rfl) (z_min KX Gn c) boot_min (ja_cons (je_var 7) (ja_cons (je_op jop_sub (je_var 5) (je_var 1)) ja_nil))) ja_nil))))
  (jss_cons (js_expr (je_app (je_var 4) (je_var 7)))
  (jss_one (js_aug 5 sc_falling.nd jip_sub (je_var 7)))))))
  (jss_one (js_ret (je_bty jb_tuple (z_tuple KX Gn c) boot_tuple (ja_cons (je_var 4) ja_nil))))))))
theorem fn_switched {M_even : DF} (h_even : FnD P w K mg base (GK K) 2 (He.fAd K ("even", none)) 3 M_even) {M_times : DF} (h_times : FnD P w K mg base (GK K) 2 (He.fAd K ("times", none)) 2 M_times) {M_rounded : DF} (h_rounded : FnD P w K mg base (GK K) 1 (He.fAd K ("rounded", none)) 2 M_rounded) {M_check_thing : DF} (h_check_thing : FnD P w K mg base (GK K) 1 (He.fAd K ("check_thing", none)) 3 M_check_thing) : FnD P w K mg base (GK K) 3 (He.fAd K ("switched", none)) 4 (runD 10 (f_switched M_even M_times M_rounded M_check_thing)) := by
  obtain ⟨fd, F0⟩ := c.def_ 19 (d := d_switched) rfl
  have F : FunD K "switched" "switched" (defArgs s_switched) (defBody s_switched) (defScope s_switched) [] [] (He.fAd K ("switched", none)) fd := F0
  have b : Binds K fd ["cost", "rest", "years", "much"] [] := F.bindsN fun _ _ _ _ _ _ us hl => match us, hl with | [_, _, _, _], _ => rfl
  exact fnD_of F sc_switched b fun cdv A outer s H E hl hcd hr => (jss_cons (js_expr (je_call h_check_thing (takes_of rfl rfl rfl rfl) (hr.mono (by decide)) (g_check_thing KX Gn c) (ja_cons (je_var 0) (ja_cons (je_var 1) (ja_cons (je_var 2) ja_nil)))))
  (jss_cons (js_par2 4 5 rfl sc_switched.nd (ja_cons (je_lst ja_nil) (ja_cons (je_var 0) ja_nil)))
  (jss_cons (js_for (passes_of rfl) rfl (ji_range1 (z_range KX Gn c) (je_var 2)) (jg_name 6 sc_switched.nd)
  (jss_cons (js_set 7 sc_switched.nd (je_call h_rounded (takes_of rfl rfl rfl rfl) (hr.mono (by decide)) (g_rounded KX Gn c) (ja_cons (je_call h_times (takes_of rfl rfl rfl rfl) (hr.mono (by decide)) (g_times KX Gn c) (ja_cons (je_tup (ja_cons (je_var 5) (ja_cons je_int ja_nil))) (ja_cons (je_var 3) ja_nil))) (ja_cons je_str ja_nil))))
  (jss_cons (js_set 8 sc_switched.nd (je_if (jt_cmp jop_gt (je_var 5) (je_var 1)) (je_ix (je_call h_even (takes_of rfl rfl rfl rfl) (hr.mono (by decide)) (g_even KX Gn c) (ja_cons (je_var 5) (ja_cons (je_var 1) (ja_cons (je_op jop_sub (je_var 2) (je_var 6)) ja_nil)))) je_int) je_int))
  (jss_cons (js_if (jt_of (jw_or (jt_cmp jop_le (je_var 7) (je_var 8)) (jw_or1 (jt_cmp (jop_eq hr.units) (je_var 6) (je_op jop_sub (je_var 2) je_int)))))
  (jss_cons (js_expr (je_ext (je_var 4) (je_if (jt_cmp jop_gt (je_var 5) (je_var 1)) (je_call h_even (takes_of rfl rfl rfl rfl) (hr.mono (by decide)) (g_even KX Gn c) (ja_cons (je_var 5) (ja_cons (je_var 1) (ja_cons (je_op jop_sub (je_var 2) (je_var 6)) ja_nil)))) (je_op jop_mul (je_tup (ja_cons je_int ja_nil)) (je_op jop_sub (je_var 2) (je_var 6))))))
  (jss_one js_break))
  jss_nil)
  (jss_cons (js_set 9 sc_switched.nd (je_blt (jb_min rfl) (z_min KX Gn c) boot_min (ja_cons (je_var 7) (ja_cons (je_op jop_sub (je_var 5) (je_var 1)) ja_nil))))
  (jss_cons (js_expr (je_app (je_var 4) (je_var 9)))
  (jss_one (js_aug 5 sc_switched.nd jip_sub (je_var 9)))))))))
  (jss_one (js_ret (je_bty jb_tuple (z_tuple KX Gn c) boot_tuple (ja_cons (je_var 4) ja_nil)))))))
theorem fn_by_digits {M_check_thing : DF} (h_check_thing : FnD P w K mg base (GK K) 1 (He.fAd K ("check_thing", none)) 3 M_check_thing) : FnD P w K mg base (GK K) 2 (He.fAd K ("by_digits", none)) 3 (runD 9 (f_by_digits M_check_thing)) := by
  obtain ⟨fd, F0⟩ := c.def_ 20 (d := d_by_digits) rfl
  have F : FunD K "by_digits" "by_digits" (defArgs s_by_digits) (defBody s_by_digits) (defScope s_by_digits) [] [] (He.fAd K ("by_digits", none)) fd := F0
  have b : Binds K fd ["cost", "rest", "years"] [] := F.bindsN fun _ _ _ _ _ _ us hl => match us, hl with | [_, _, _], _ => rfl
  exact fnD_of F sc_by_digits b fun cdv A outer s H E hl hcd hr => (jss_cons (js_expr (je_call h_check_thing (takes_of rfl rfl rfl rfl) (hr.mono (by decide)) (g_check_thing KX Gn c) (ja_cons (je_var 0) (ja_cons (je_var 1) (ja_cons (je_var 2) ja_nil)))))
  (jss_cons (js_par2 3 4 rfl sc_by_digits.nd (ja_cons (je_op jop_sub (je_var 0) (je_var 1)) (ja_cons (je_op jop_fdiv (je_op jop_mul (je_var 2) (je_op jop_add (je_var 2) je_int)) je_int) ja_nil)))
  (jss_cons (js_par2 5 6 rfl sc_by_digits.nd (ja_cons je_int (ja_cons (je_lst ja_nil) ja_nil)))
  (jss_cons (js_for (passes_of rfl) rfl (ji_range1 (z_range KX Gn c) (je_var 2)) (jg_name 7 sc_by_digits.nd)
  (jss_cons (js_set 8 sc_by_digits.nd (je_op jop_sub (je_op jop_add (je_var 5) (je_var 2)) (je_var 7)))
  (jss_cons (js_expr (je_app (je_var 6) (je_op jop_sub (je_op jop_fdiv (je_op jop_mul (je_var 3) (je_var 8)) (je_var 4)) (je_op jop_fdiv (je_op jop_mul (je_var 3) (je_var 5)) (je_var 4)))))
  (jss_one (js_set 5 sc_by_digits.nd (je_var 8))))))
  (jss_one (js_ret (je_bty jb_tuple (z_tuple KX Gn c) boot_tuple (ja_cons (je_var 6) ja_nil))))))))
theorem fn_by_use  (tb : ∀ p ∈ tf, LamX.TabB base mg (He.cT K p).1 (He.cT K p).2) (nd2 : (tf.map fun p => (He.cT K p).2).Nodup) : FnD P w K mg base (GK K) 4 (He.fAd K ("by_use", none)) 4 (runD 9 (f_by_use)) := by
  obtain ⟨fd, F0⟩ := c.def_ 21 (d := d_by_use) rfl
  have F : FunD K "by_use" "by_use" (defArgs s_by_use) (defBody s_by_use) (defScope s_by_use) [] [] (He.fAd K ("by_use", none)) fd := F0
  have b : Binds K fd ["cost", "rest", "uses", "all_uses"] [] := F.bindsN fun _ _ _ _ _ _ us hl => match us, hl with | [_, _, _, _], _ => rfl
  obtain ⟨fdT, FT0⟩ := c.def_ 35 (d := d__law_told) rfl
  have FT : FunD K "_law_told" "_law_told" (defArgs s__law_told) (defBody s__law_told) (defScope s__law_told) [] [] (He.fAd K ("_law_told", none)) fdT := FT0
  have bT : Binds K fdT ["what"] [] := FT.bindsN fun _ _ _ _ _ _ us hl => match us, hl with | [_], _ => rfl
  have kT := FT.kp
  obtain ⟨ocT, odT, dVT, kVT, docT, pmT, anT, cdT, ctT, oslT, rfl, lkT, hcT, _, _⟩ := FT.ex
  have hu : ∀ p ∈ (GK K).T, p.1 = (He.cT K ("by_use", none)).2 → p.2 = (("by_use" : Str) ++ (".<locals>." : Str)) ++ ("<genexpr>" : Str) := by
    have n2 := nd2
    simp only [tf, List.map_cons, List.map_nil, List.nodup_cons, List.mem_cons, List.not_mem_nil, or_false, not_or] at n2
    intro p hp e
    simp only [GK, List.mem_cons, List.not_mem_nil, or_false] at hp
    rcases hp with rfl | rfl | rfl | rfl | rfl | rfl | rfl | rfl | rfl | rfl | rfl
    · exfalso; simp_all
    · exfalso; simp_all
    · exfalso; simp_all
    · exfalso; simp_all
    · exfalso; simp_all
    · rfl
    · exfalso; simp_all
    · exfalso; simp_all
    · exfalso; simp_all
    · exfalso; simp_all
    · exfalso; simp_all
  refine fnD_of F sc_by_use b fun cdv A outer s H E hl hcd hr => ?_
  have ec := code_is (p := ("by_use", none)) hl hcd
  subst ec
  exact (jss_cons (js_if (jt_of (jw_or (jt_cmp jop_lt (je_var 3) je_int) (jw_or (jt_val (je_anyX (k := 0) (c := (He.cT K ("by_use", none)).1) (P := (He.cT K ("by_use", none)).2) (hr.mono (by decide)) (z_any KX Gn c) (tb ("by_use", none) (List.Mem.tail _ (List.Mem.tail _ (List.Mem.tail _ (List.Mem.tail _ (List.Mem.tail _ (List.Mem.head _))))))) rfl (List.Mem.tail _ (List.Mem.tail _ (List.Mem.tail _ (List.Mem.tail _ (List.Mem.tail _ (List.Mem.head _)))))) hu sc_by_use.nd (genB_by (N := N_by_use) (sc := defScope s_by_use) (own := [("one", 7)]) (by decide +kernel)) (ji_seq (je_var 2)) (fun _ _ _ _ hrg => (jgv_name 7 sc_by_use.nd (by decide))) (fun _ _ _ _ hrg => jts_nil) (fun _ _ _ _ hrg => (je_cmp jop_lt (je_var 7) je_int)))) (jw_or1 (jt_not (jt_chain jop_le jop_le je_int (je_var 1) (je_var 0)))))))
  (jss_one (js_raise (c := "BadRule") rfl (takes_of rfl rfl rfl rfl) PySem.F.excBase_ValueError (x_BadRule KX Gn c).1 (g_BadRule KX Gn c) (x_BadRule KX Gn c).2.1 (raises_own (x_BadRule KX Gn c).2.2.1 (x_BadRule KX Gn c).2.2.2)))
  jss_nil)
  (jss_cons (js_par3 4 5 6 rfl sc_by_use.nd (ja_cons (je_op jop_sub (je_var 0) (je_var 1)) (ja_cons je_int (ja_cons (je_lst ja_nil) ja_nil))))
  (jss_cons (js_for (passes_of rfl) rfl (ji_seq (je_var 2)) (jg_name 7 sc_by_use.nd)
  (jss_cons (js_set 8 sc_by_use.nd (je_blt (jb_min rfl) (z_min KX Gn c) boot_min (ja_cons (je_var 3) (ja_cons (je_op jop_add (je_var 5) (je_var 7)) ja_nil))))
  (jss_cons (js_expr (je_app (je_var 6) (je_op jop_sub (je_op jop_fdiv (je_op jop_mul (je_var 4) (je_var 8)) (je_var 3)) (je_op jop_fdiv (je_op jop_mul (je_var 4) (je_var 5)) (je_var 3)))))
  (jss_one (js_set 5 sc_by_use.nd (je_var 8))))))
  (jss_one (js_ret (je_bty jb_tuple (z_tuple KX Gn c) boot_tuple (ja_cons (je_var 6) ja_nil)))))))
theorem fn_left_after  : FnD P w K mg base (GK K) 1 (He.fAd K ("left_after", none)) 2 (runD 5 (f_left_after)) := by
  obtain ⟨fd, F0⟩ := c.def_ 22 (d := d_left_after) rfl
  have F : FunD K "left_after" "left_after" (defArgs s_left_after) (defBody s_left_after) (defScope s_left_after) [] [] (He.fAd K ("left_after", none)) fd := F0
  have b : Binds K fd ["cost", "wear"] [] := F.bindsN fun _ _ _ _ _ _ us hl => match us, hl with | [_, _], _ => rfl
  exact fnD_of F sc_left_after b fun cdv A outer s H E hl hcd hr => (jss_cons (js_par2 2 3 rfl sc_left_after.nd (ja_cons (je_lst ja_nil) (ja_cons (je_var 0) ja_nil)))
  (jss_cons (js_for (passes_of rfl) rfl (ji_seq (je_var 1)) (jg_name 4 sc_left_after.nd)
  (jss_cons (js_aug 3 sc_left_after.nd jip_sub (je_var 4))
  (jss_one (js_expr (je_app (je_var 2) (je_var 3))))))
  (jss_one (js_ret (je_bty jb_tuple (z_tuple KX Gn c) boot_tuple (ja_cons (je_var 2) ja_nil))))))
theorem fn_when_worn {M_left_after : DF} (h_left_after : FnD P w K mg base (GK K) 1 (He.fAd K ("left_after", none)) 2 M_left_after) : FnD P w K mg base (GK K) 2 (He.fAd K ("when_worn", none)) 3 (runD 5 (f_when_worn M_left_after)) := by
  obtain ⟨fd, F0⟩ := c.def_ 26 (d := d_when_worn) rfl
  have F : FunD K "when_worn" "when_worn" (defArgs s_when_worn) (defBody s_when_worn) (defScope s_when_worn) [] [] (He.fAd K ("when_worn", none)) fd := F0
  have b : Binds K fd ["cost", "rest", "wear"] [] := F.bindsN fun _ _ _ _ _ _ us hl => match us, hl with | [_, _, _], _ => rfl
  exact fnD_of F sc_when_worn b fun cdv A outer s H E hl hcd hr => (jss_cons (js_for (passes_of rfl) rfl (ji_enum (z_enumerate KX Gn c) (je_call h_left_after (takes_of rfl rfl rfl rfl) (hr.mono (by decide)) (g_left_after KX Gn c) (ja_cons (je_var 0) (ja_cons (je_var 2) ja_nil)))) (jg_tup rfl (jgs_cons (jg_name 3 sc_when_worn.nd) (jgs_cons (jg_name 4 sc_when_worn.nd) jgs_nil)))
  (jss_one (js_if (jt_cmp jop_le (je_var 4) (je_var 1))
  (jss_one (js_ret (je_var 3)))
  jss_nil)))
  (jss_one (js_ret je_non)))
theorem fn_sold  : FnD P w K mg base (GK K) 1 (He.fAd K ("sold", none)) 4 (runD 5 (f_sold)) := by
  obtain ⟨fd, F0⟩ := c.def_ 23 (d := d_sold) rfl
  have F : FunD K "sold" "sold" (defArgs s_sold) (defBody s_sold) (defScope s_sold) [] [] (He.fAd K ("sold", none)) fd := F0
  have b : Binds K fd ["cost", "wear", "years_used", "price"] [] := F.bindsN fun _ _ _ _ _ _ us hl => match us, hl with | [_, _, _, _], _ => rfl
  exact fnD_of F sc_sold b fun cdv A outer s H E hl hcd hr => (jss_cons (js_if (jt_not (jt_chain jop_le jop_le je_int (je_var 2) (je_blt jb_len (z_len KX Gn c) boot_len (ja_cons (je_var 1) ja_nil))))
  (jss_one (js_raise (c := "BadRule") rfl (takes_of rfl rfl rfl rfl) PySem.F.excBase_ValueError (x_BadRule KX Gn c).1 (g_BadRule KX Gn c) (x_BadRule KX Gn c).2.1 (raises_own (x_BadRule KX Gn c).2.2.1 (x_BadRule KX Gn c).2.2.2)))
  jss_nil)
  (jss_cons (js_set 4 sc_sold.nd (je_op jop_sub (je_var 0) (je_blt (jb_sumT rfl) (z_sum KX Gn c) PyProof.Rows.boot_sum (ja_cons (je_slice (je_var 1) jp_none (jp_some (je_var 2))) ja_nil))))
  (jss_one (js_ret (je_tup (ja_cons (je_var 4) (ja_cons (je_op jop_sub (je_var 3) (je_var 4)) ja_nil)))))))
theorem fn_order  : FnD P w K mg base (GK K) 1 (He.fAd K ("order", none)) 2 (runD 3 (f_order)) := by
  obtain ⟨fd, F0⟩ := c.def_ 2 (d := d_order) rfl
  have F : FunD K "order" "order" (defArgs s_order) (defBody s_order) (defScope s_order) [] [] (He.fAd K ("order", none)) fd := F0
  have b : Binds K fd ["a", "b"] [] := F.bindsN fun _ _ _ _ _ _ us hl => match us, hl with | [_, _], _ => rfl
  exact fnD_of F sc_order b fun cdv A outer s H E hl hcd hr => (jss_cons (js_set 2 sc_order.nd (je_op jop_sub (je_op jop_mul (je_ix (je_var 0) je_int) (je_ix (je_var 1) je_int)) (je_op jop_mul (je_ix (je_var 1) je_int) (je_ix (je_var 0) je_int))))
  (jss_one (js_ret (je_op jop_sub (je_cmp jop_gt (je_var 2) je_int) (je_cmp jop_lt (je_var 2) je_int)))))
theorem fn_near {M_order : DF} (h_order : FnD P w K mg base (GK K) 1 (He.fAd K ("order", none)) 2 M_order) : FnD P w K mg base (GK K) 2 (He.fAd K ("near", none)) 2 (runD 2 (f_near M_order)) := by
  obtain ⟨fd, F0⟩ := c.def_ 31 (d := d_near) rfl
  have F : FunD K "near" "near" (defArgs s_near) (defBody s_near) (defScope s_near) [] [] (He.fAd K ("near", none)) fd := F0
  have b : Binds K fd ["a", "count"] [] := F.bindsN fun _ _ _ _ _ _ us hl => match us, hl with | [_, _], _ => rfl
  exact fnD_of F sc_near b fun cdv A outer s H E hl hcd hr => (jss_one (js_ret (je_and (je_cmp jop_le (je_call h_order (takes_of rfl rfl rfl rfl) (hr.mono (by decide)) (g_order KX Gn c) (ja_cons (je_var 0) (ja_cons (je_tup (ja_cons (je_op jop_add (je_var 1) je_int) (ja_cons je_int ja_nil))) ja_nil))) je_int) (je_one (je_cmp jop_ge (je_call h_order (takes_of rfl rfl rfl rfl) (hr.mono (by decide)) (g_order KX Gn c) (ja_cons (je_var 0) (ja_cons (je_tup (ja_cons (je_op jop_sub (je_var 1) je_int) (ja_cons je_int ja_nil))) ja_nil))) je_int)))))
theorem fn_mean_wear {M_part : DF} (h_part : FnD P w K mg base (GK K) 1 (He.fAd K ("part", none)) 2 M_part) {M_check_thing : DF} (h_check_thing : FnD P w K mg base (GK K) 1 (He.fAd K ("check_thing", none)) 3 M_check_thing) : FnD P w K mg base (GK K) 2 (He.fAd K ("mean_wear", none)) 3 (runD 3 (f_mean_wear M_part M_check_thing)) := by
  obtain ⟨fd, F0⟩ := c.def_ 30 (d := d_mean_wear) rfl
  have F : FunD K "mean_wear" "mean_wear" (defArgs s_mean_wear) (defBody s_mean_wear) (defScope s_mean_wear) [] [] (He.fAd K ("mean_wear", none)) fd := F0
  have b : Binds K fd ["cost", "rest", "years"] [] := F.bindsN fun _ _ _ _ _ _ us hl => match us, hl with | [_, _, _], _ => rfl
  exact fnD_of F sc_mean_wear b fun cdv A outer s H E hl hcd hr => (jss_cons (js_expr (je_call h_check_thing (takes_of rfl rfl rfl rfl) (hr.mono (by decide)) (g_check_thing KX Gn c) (ja_cons (je_var 0) (ja_cons (je_var 1) (ja_cons (je_var 2) ja_nil)))))
  (jss_one (js_ret (je_call h_part (takes_of rfl rfl rfl rfl) (hr.mono (by decide)) (g_part KX Gn c) (ja_cons (je_op jop_sub (je_var 0) (je_var 1)) (ja_cons (je_var 2) ja_nil))))))
theorem fn_law {M__law_rounds : DF} (h__law_rounds : FnD P w K mg base (GK K) 2 (He.fAd K ("_law_rounds", none)) 2 M__law_rounds) {M_Stock___init__ : DF} (h_Stock___init__ : FnD P w K mg base (GK K) 1 (He.fAd K ("Stock", some "__init__")) 2 M_Stock___init__) {M_by_hand : DF} (h_by_hand : FnD P w K mg base (GK K) 2 (He.fAd K ("by_hand", none)) 2 M_by_hand) {M_falling : DF} (h_falling : FnD P w K mg base (GK K) 3 (He.fAd K ("falling", none)) 4 M_falling) {M_even : DF} (h_even : FnD P w K mg base (GK K) 2 (He.fAd K ("even", none)) 3 M_even) {M__law_more : DF} (h__law_more : FnD P w K mg base (GK K) 5 (He.fAd K ("_law_more", none)) 5 M__law_more) {M_sold : DF} (h_sold : FnD P w K mg base (GK K) 1 (He.fAd K ("sold", none)) 4 M_sold) {M_when_worn : DF} (h_when_worn : FnD P w K mg base (GK K) 2 (He.fAd K ("when_worn", none)) 3 M_when_worn) {M_is_slower : DF} (h_is_slower : FnD P w K mg base (GK K) 4 (He.fAd K ("is_slower", none)) 2 M_is_slower) {M_mean_wear : DF} (h_mean_wear : FnD P w K mg base (GK K) 2 (He.fAd K ("mean_wear", none)) 3 M_mean_wear) {M_near : DF} (h_near : FnD P w K mg base (GK K) 2 (He.fAd K ("near", none)) 2 M_near) {M_left_after : DF} (h_left_after : FnD P w K mg base (GK K) 1 (He.fAd K ("left_after", none)) 2 M_left_after) {M_by_use : DF} (h_by_use : FnD P w K mg base (GK K) 4 (He.fAd K ("by_use", none)) 4 M_by_use) {M_by_digits : DF} (h_by_digits : FnD P w K mg base (GK K) 2 (He.fAd K ("by_digits", none)) 3 M_by_digits) {M_switched : DF} (h_switched : FnD P w K mg base (GK K) 3 (He.fAd K ("switched", none)) 4 M_switched) {M__law_roll : DF} (h__law_roll : FnD P w K mg base (GK K) 1 (He.fAd K ("_law_roll", none)) 2 M__law_roll) {M__law_asked : DF} (h__law_asked : FnD P w K mg base (GK K) 5 (He.fAd K ("_law_asked", none)) 1 M__law_asked) {M__law_stock : DF} (h__law_stock : FnD P w K mg base (GK K) 8 (He.fAd K ("_law_stock", none)) 1 M__law_stock) (tb : ∀ p ∈ tf, LamX.TabB base mg (He.cT K p).1 (He.cT K p).2) (nd2 : (tf.map fun p => (He.cT K p).2).Nodup) {fd : FuncData} (F : FunD K "law" "law" (defArgs s_law) (defBody s_law) (defScope s_law) [] [] (He.fAd K ("law", none)) fd) : FnOk P w K mg base (L2.CX P w) 9 (He.fAd K ("law", none)) fd ["script"] (spD K (GK K) 1 (runD 11 (f_law M__law_rounds M_Stock___init__ M_by_hand M_falling M_even M__law_more M_sold M_when_worn M_is_slower M_mean_wear M_near M_left_after M_by_use M_by_digits M_switched M__law_roll M__law_asked M__law_stock))) := by
  obtain ⟨fdT, FT0⟩ := c.def_ 35 (d := d__law_told) rfl
  have FT : FunD K "_law_told" "_law_told" (defArgs s__law_told) (defBody s__law_told) (defScope s__law_told) [] [] (He.fAd K ("_law_told", none)) fdT := FT0
  have bT : Binds K fdT ["what"] [] := FT.bindsN fun _ _ _ _ _ _ us hl => match us, hl with | [_], _ => rfl
  have kT := FT.kp
  obtain ⟨ocT, odT, dVT, kVT, docT, pmT, anT, cdT, ctT, oslT, rfl, lkT, hcT, _, _⟩ := FT.ex
  have hu : ∀ p ∈ (GK K).T, p.1 = (He.cT K ("law", none)).2 → p.2 = (("law" : Str) ++ (".<locals>." : Str)) ++ ("<lambda>" : Str) := by
    have n2 := nd2
    simp only [tf, List.map_cons, List.map_nil, List.nodup_cons, List.mem_cons, List.not_mem_nil, or_false, not_or] at n2
    intro p hp e
    simp only [GK, List.mem_cons, List.not_mem_nil, or_false] at hp
    rcases hp with rfl | rfl | rfl | rfl | rfl | rfl | rfl | rfl | rfl | rfl | rfl
    · exfalso; simp_all
    · exfalso; simp_all
    · exfalso; simp_all
    · exfalso; simp_all
    · exfalso; simp_all
    · exfalso; simp_all
    · exfalso; simp_all
    · exfalso; simp_all
    · exfalso; simp_all
    · exfalso; simp_all
    · rfl
  refine fnOk_of F sc_law fun cdv A outer s H E hl hcd hr => ?_
  have ec := code_is (p := ("law", none)) hl hcd
  subst ec
  exact (jss_cons (js_for (passes_of rfl) rfl (ji_seq (je_call h__law_rounds (takes_of rfl rfl rfl rfl) (hr.mono (by decide)) (g__law_rounds KX Gn c) (ja_cons (je_var 0) (ja_cons je_int ja_nil)))) (jg_name 1 sc_law.nd)
  (jss_cons (js_if (jt_of (jw_or (jt_not (jt_val (je_call h__law_stock (takes_of rfl rfl rfl rfl) (hr.mono (by decide)) (g__law_stock KX Gn c) (ja_cons (je_var 1) ja_nil)))) (jw_or1 (jt_not (jt_val (je_call h__law_asked (takes_of rfl rfl rfl rfl) (hr.mono (by decide)) (g__law_asked KX Gn c) (ja_cons (je_var 1) ja_nil)))))))
  (jss_one (js_ret je_bl))
  jss_nil)
  (jss_cons (js_asg (je_tup (ja_cons (je_op jop_add je_int (je_call h__law_roll (takes_of rfl rfl rfl rfl) (hr.mono (by decide)) (g__law_roll KX Gn c) (ja_cons (je_var 1) (ja_cons je_int ja_nil)))) (ja_cons (je_op jop_add je_int (je_call h__law_roll (takes_of rfl rfl rfl rfl) (hr.mono (by decide)) (g__law_roll KX Gn c) (ja_cons (je_var 1) (ja_cons je_int ja_nil)))) (ja_cons (je_tup (ja_cons (je_op jop_add je_int (je_call h__law_roll (takes_of rfl rfl rfl rfl) (hr.mono (by decide)) (g__law_roll KX Gn c) (ja_cons (je_var 1) (ja_cons je_int ja_nil)))) (ja_cons je_int ja_nil))) ja_nil)))) (jg_tup rfl (jgs_cons (jg_name 2 sc_law.nd) (jgs_cons (jg_name 3 sc_law.nd) (jgs_cons (jg_name 4 sc_law.nd) jgs_nil)))))
  (jss_cons (js_set 5 sc_law.nd (je_call h__law_roll (takes_of rfl rfl rfl rfl) (hr.mono (by decide)) (g__law_roll KX Gn c) (ja_cons (je_var 1) (ja_cons je_int ja_nil))))
  (jss_cons (js_asg (je_tup (ja_cons (je_call h_even (takes_of rfl rfl rfl rfl) (hr.mono (by decide)) (g_even KX Gn c) (ja_cons (je_var 2) (ja_cons (je_var 5) (ja_cons (je_var 3) ja_nil)))) (ja_cons (je_lst (ja_cons (je_call h_falling (takes_of rfl rfl rfl rfl) (hr.mono (by decide)) (g_falling KX Gn c) (ja_cons (je_var 2) (ja_cons (je_var 5) (ja_cons (je_var 3) (ja_cons (je_var 4) ja_nil))))) (ja_cons (je_call h_switched (takes_of rfl rfl rfl rfl) (hr.mono (by decide)) (g_switched KX Gn c) (ja_cons (je_var 2) (ja_cons (je_var 5) (ja_cons (je_var 3) (ja_cons (je_var 4) ja_nil))))) (ja_cons (je_call h_by_digits (takes_of rfl rfl rfl rfl) (hr.mono (by decide)) (g_by_digits KX Gn c) (ja_cons (je_var 2) (ja_cons (je_var 5) (ja_cons (je_var 3) ja_nil)))) (ja_cons (je_call h_by_use (takes_of rfl rfl rfl rfl) (hr.mono (by decide)) (g_by_use KX Gn c) (ja_cons (je_var 2) (ja_cons (je_var 5) (ja_cons (je_lst (ja_cons je_int (ja_cons je_int (ja_cons je_int ja_nil)))) (ja_cons je_int ja_nil))))) ja_nil))))) ja_nil))) (jg_tup rfl (jgs_cons (jg_name 6 sc_law.nd) (jgs_cons (jg_name 7 sc_law.nd) jgs_nil))))
  (jss_cons (js_for (passes_of rfl) rfl (ji_seq (je_op jop_add (je_lst (ja_cons (je_var 6) ja_nil)) (je_var 7))) (jg_name 8 sc_law.nd)
  (jss_one (js_if (jt_of (jw_or (jt_cmp (jop_ne hr.units) (je_blt (jb_sumT rfl) (z_sum KX Gn c) PyProof.Rows.boot_sum (ja_cons (je_var 8) ja_nil)) (je_op jop_sub (je_var 2) (je_var 5))) (jw_or (jt_cmp jop_lt (je_blt (jb_minT rfl hr.units) (z_min KX Gn c) boot_min (ja_cons (je_var 8) ja_nil)) je_int) (jw_or1 (jt_cmp (jop_ne hr.units) (je_ix (je_call h_left_after (takes_of rfl rfl rfl rfl) (hr.mono (by decide)) (g_left_after KX Gn c) (ja_cons (je_var 2) (ja_cons (je_var 8) ja_nil))) (je_op jop_sub (je_blt jb_len (z_len KX Gn c) boot_len (ja_cons (je_var 8) ja_nil)) je_int)) (je_var 5))))))
  (jss_one (js_ret je_bl))
  jss_nil)))
  (jss_cons (js_if (jt_cmp jop_gt (je_op jop_sub (je_blt (jb_maxT rfl) (z_max KX Gn c) boot_max (ja_cons (je_var 6) ja_nil)) (je_blt (jb_minT rfl hr.units) (z_min KX Gn c) boot_min (ja_cons (je_var 6) ja_nil))) je_int)
  (jss_one (js_ret je_bl))
  jss_nil)
  (jss_cons (js_if (jt_cmp (jop_ne hr.units) (je_lc rfl sc_law.nd (blkOk_by (own := [("one", 9)]) (N := N_law) (sc := defScope s_law) (by decide +kernel)) (ji_seq (je_var 6)) (fun _ _ _ _ _ => (jgv_name 9 sc_law.nd (by decide))) (fun _ _ _ _ _ => (jts_one (jt_not (jt_val (je_call h_near takes0 (hr.mono (by decide)) (g_near KX Gn c) (ja_cons (je_call h_mean_wear takes0 (hr.mono (by decide)) (g_mean_wear KX Gn c) (ja_cons (je_var 2) (ja_cons (je_var 5) (ja_cons (je_var 3) ja_nil)))) (ja_cons (je_var 9) ja_nil))))))) (fun _ _ _ _ _ => (je_var 9))) (je_lst ja_nil))
  (jss_one (js_ret je_bl))
  jss_nil)
  (jss_cons (js_if (jt_not (jt_val (je_call h_is_slower (takes_of rfl rfl rfl rfl) (hr.mono (by decide)) (g_is_slower KX Gn c) (ja_cons (je_var 6) (ja_cons (je_ix (je_var 7) je_int) ja_nil)))))
  (jss_one (js_ret je_bl))
  jss_nil)
  (jss_cons (js_if (jt_cmp (jop_ne hr.units) (je_lc rfl sc_law.nd (blkOk_by (own := [("k", 10)]) (N := N_law) (sc := defScope s_law) (by decide +kernel)) (ji_range2 (z_range KX Gn c) je_int (je_blt jb_len (z_len KX Gn c) boot_len (ja_cons (je_ix (je_var 7) je_int) ja_nil))) (fun _ _ _ _ _ => (jgv_name 10 sc_law.nd (by decide))) (fun _ _ _ _ _ => (jts_one (jt_cmp jop_gt (je_ix (je_ix (je_var 7) je_int) (je_var 10)) (je_op jop_add (je_ix (je_ix (je_var 7) je_int) (je_op jop_sub (je_var 10) je_int)) je_int)))) (fun _ _ _ _ _ => (je_var 10))) (je_lst ja_nil))
  (jss_one (js_ret je_bl))
  jss_nil)
  (jss_cons (js_if (jt_of (jw_or (jt_cmp jop_isN (je_call h_when_worn (takes_of rfl rfl rfl rfl) (hr.mono (by decide)) (g_when_worn KX Gn c) (ja_cons (je_var 2) (ja_cons (je_var 5) (ja_cons (je_var 6) ja_nil)))) je_non) (jw_or1 (jt_cmp (jop_ne hr.units) (je_call h_sold (takes_of rfl rfl rfl rfl) (hr.mono (by decide)) (g_sold KX Gn c) (ja_cons (je_var 2) (ja_cons (je_var 6) (ja_cons je_int (ja_cons (je_op jop_add (je_var 2) je_int) ja_nil))))) (je_tup (ja_cons (je_var 2) (ja_cons je_int ja_nil)))))))
  (jss_one (js_ret je_bl))
  jss_nil)
  (jss_cons (js_if (jt_not (jt_val (je_call h__law_more (takes_of rfl rfl rfl rfl) (hr.mono (by decide)) (g__law_more KX Gn c) (ja_cons (je_var 1) (ja_cons (je_var 2) (ja_cons (je_var 5) (ja_cons (je_var 3) (ja_cons (je_var 6) ja_nil))))))))
  (jss_one (js_ret je_bl))
  jss_nil)
  (jss_cons (js_if (jt_cmp (jop_ne hr.units) (je_told (k := 2) (rs := raisable) (cs := tellers) (g__law_told KX Gn c) kT lkT hcT bT sc__law_told rfl (Or.inl rfl) (fun _ => rfl) (.cons rfl (g_BadMoney KX Gn c) (by decide) (.cons rfl (g_BadDay KX Gn c) (by decide) (.cons rfl (g_BadRule KX Gn c) (by decide) (.cons rfl (g_Unbalanced KX Gn c) (by decide) (.cons rfl (g_Shut KX Gn c) (by decide) (.cons rfl (g_Short KX Gn c) (by decide) (.cons rfl (g_BadText KX Gn c) (by decide) (.cons rfl (g_NoAnswer KX Gn c) (by decide) (.nil))))))))) (exall KX Gn c) (tb ("law", none) (List.Mem.tail _ (List.Mem.tail _ (List.Mem.tail _ (List.Mem.tail _ (List.Mem.tail _ (List.Mem.tail _ (List.Mem.tail _ (List.Mem.tail _ (List.Mem.tail _ (List.Mem.tail _ (List.Mem.head _)))))))))))) rfl (List.Mem.tail _ (List.Mem.tail _ (List.Mem.tail _ (List.Mem.tail _ (List.Mem.tail _ (List.Mem.tail _ (List.Mem.tail _ (List.Mem.tail _ (List.Mem.tail _ (List.Mem.tail _ (List.Mem.head _))))))))))) hu (hr.mono (by decide)) (LamX.lamS_by (sc := defScope s_law) (by decide +kernel)) rfl (fun _ _ _ _ _ => rfl) (fun A2 outer2 s2 H2 E2 f2 c2 hr2 => (je_call h_even lam_takes (hr2.mono (by decide)) (g_even KX Gn c) (ja_cons je_int (ja_cons je_int (ja_cons je_int ja_nil)))))) je_str)
  (jss_one (js_ret je_bl))
  jss_nil)
  (jss_cons (js_if (jt_cmp (jop_ne hr.units) (je_told (k := 3) (rs := raisable) (cs := tellers) (g__law_told KX Gn c) kT lkT hcT bT sc__law_told rfl (Or.inl rfl) (fun _ => rfl) (.cons rfl (g_BadMoney KX Gn c) (by decide) (.cons rfl (g_BadDay KX Gn c) (by decide) (.cons rfl (g_BadRule KX Gn c) (by decide) (.cons rfl (g_Unbalanced KX Gn c) (by decide) (.cons rfl (g_Shut KX Gn c) (by decide) (.cons rfl (g_Short KX Gn c) (by decide) (.cons rfl (g_BadText KX Gn c) (by decide) (.cons rfl (g_NoAnswer KX Gn c) (by decide) (.nil))))))))) (exall KX Gn c) (tb ("law", none) (List.Mem.tail _ (List.Mem.tail _ (List.Mem.tail _ (List.Mem.tail _ (List.Mem.tail _ (List.Mem.tail _ (List.Mem.tail _ (List.Mem.tail _ (List.Mem.tail _ (List.Mem.tail _ (List.Mem.head _)))))))))))) rfl (List.Mem.tail _ (List.Mem.tail _ (List.Mem.tail _ (List.Mem.tail _ (List.Mem.tail _ (List.Mem.tail _ (List.Mem.tail _ (List.Mem.tail _ (List.Mem.tail _ (List.Mem.tail _ (List.Mem.head _))))))))))) hu (hr.mono (by decide)) (LamX.lamS_by (sc := defScope s_law) (by decide +kernel)) rfl (fun _ _ _ _ _ => rfl) (fun A2 outer2 s2 H2 E2 f2 c2 hr2 => (je_call h_falling lam_takes (hr2.mono (by decide)) (g_falling KX Gn c) (ja_cons je_int (ja_cons je_int (ja_cons je_int (ja_cons (je_tup (ja_cons je_int (ja_cons je_int ja_nil))) ja_nil))))))) je_str)
  (jss_one (js_ret je_bl))
  jss_nil)
  (jss_cons (js_if (jt_cmp (jop_ne hr.units) (je_told (k := 2) (rs := raisable) (cs := tellers) (g__law_told KX Gn c) kT lkT hcT bT sc__law_told rfl (Or.inl rfl) (fun _ => rfl) (.cons rfl (g_BadMoney KX Gn c) (by decide) (.cons rfl (g_BadDay KX Gn c) (by decide) (.cons rfl (g_BadRule KX Gn c) (by decide) (.cons rfl (g_Unbalanced KX Gn c) (by decide) (.cons rfl (g_Shut KX Gn c) (by decide) (.cons rfl (g_Short KX Gn c) (by decide) (.cons rfl (g_BadText KX Gn c) (by decide) (.cons rfl (g_NoAnswer KX Gn c) (by decide) (.nil))))))))) (exall KX Gn c) (tb ("law", none) (List.Mem.tail _ (List.Mem.tail _ (List.Mem.tail _ (List.Mem.tail _ (List.Mem.tail _ (List.Mem.tail _ (List.Mem.tail _ (List.Mem.tail _ (List.Mem.tail _ (List.Mem.tail _ (List.Mem.head _)))))))))))) rfl (List.Mem.tail _ (List.Mem.tail _ (List.Mem.tail _ (List.Mem.tail _ (List.Mem.tail _ (List.Mem.tail _ (List.Mem.tail _ (List.Mem.tail _ (List.Mem.tail _ (List.Mem.tail _ (List.Mem.head _))))))))))) hu (hr.mono (by decide)) (LamX.lamS_by (sc := defScope s_law) (by decide +kernel)) rfl (fun _ _ _ _ _ => rfl) (fun A2 outer2 s2 H2 E2 f2 c2 hr2 => (je_call h_by_hand lam_takes (hr2.mono (by decide)) (g_by_hand KX Gn c) (ja_cons (je_tup (ja_cons (je_tup (ja_cons je_int (ja_cons je_int ja_nil))) ja_nil)) (ja_cons (je_tup (ja_cons (je_tup (ja_cons je_int (ja_cons je_int ja_nil))) ja_nil)) ja_nil))))) je_str)
  (jss_one (js_ret je_bl))
  jss_nil)
  (jss_one (js_if (jt_cmp (jop_ne hr.units) (je_told (k := 2) (rs := raisable) (cs := tellers) (g__law_told KX Gn c) kT lkT hcT bT sc__law_told rfl (Or.inl rfl) (fun _ => rfl) (.cons rfl (g_BadMoney KX Gn c) (by decide) (.cons rfl (g_BadDay KX Gn c) (by decide) (.cons rfl (g_BadRule KX Gn c) (by decide) (.cons rfl (g_Unbalanced KX Gn c) (by decide) (.cons rfl (g_Shut KX Gn c) (by decide) (.cons rfl (g_Short KX Gn c) (by decide) (.cons rfl (g_BadText KX Gn c) (by decide) (.cons rfl (g_NoAnswer KX Gn c) (by decide) (.nil))))))))) (exall KX Gn c) (tb ("law", none) (List.Mem.tail _ (List.Mem.tail _ (List.Mem.tail _ (List.Mem.tail _ (List.Mem.tail _ (List.Mem.tail _ (List.Mem.tail _ (List.Mem.tail _ (List.Mem.tail _ (List.Mem.tail _ (List.Mem.head _)))))))))))) rfl (List.Mem.tail _ (List.Mem.tail _ (List.Mem.tail _ (List.Mem.tail _ (List.Mem.tail _ (List.Mem.tail _ (List.Mem.tail _ (List.Mem.tail _ (List.Mem.tail _ (List.Mem.tail _ (List.Mem.head _))))))))))) hu (hr.mono (by decide)) (LamX.lamS_by (sc := defScope s_law) (by decide +kernel)) rfl (fun _ _ _ _ _ => rfl) (fun A2 outer2 s2 H2 E2 f2 c2 hr2 => (je_make (c := "Stock") h_Stock___init__ (mk_Stock KX Gn c) lam_takes (hr2.mono (by decide)) (g_Stock KX Gn c) (ja_cons je_str ja_nil)))) je_str)
  (jss_one (js_ret je_bl))
  jss_nil)))))))))))))))))
  (jss_one (js_ret je_bl)))
end
end Pr
set_option Elab.async false
set_option linter.all false
set_option maxRecDepth 100000
set_option maxHeartbeats 0
namespace Pr
open PySem PySem.Spec PyProof.Rows L2 DL
section
variable {P : Program} {w : World} {K : PySem.W.Frag} {mg : Str → Option Value} {base h0 : Heap}
theorem walk_law (KX : K.In h0) (Gn : h0.Ns mainGlobals mg) (c : He.SaysD fa fn K)
   (sup_Short : SupC K P ((GK K).cA "Short") "lacking") (tup_RULES : He.tupB K "RULES" ((["down", "up", "half up", "half even", "half down"] : List Str).map He.Dv.str) = true) (tb : ∀ p ∈ tf, LamX.TabB base mg (He.cT K p).1 (He.cT K p).2) (nd2 : (tf.map fun p => (He.cT K p).2).Nodup) {fd : FuncData} (F : FunD K "law" "law" (defArgs s_law) (defBody s_law) (defScope s_law) [] [] (He.fAd K ("law", none)) fd) : FnOk P w K mg base (L2.CX P w) 9 (He.fAd K ("law", none)) fd ["script"] (spD K (GK K) 1 M_law) := by
  have h__law_dice : FnD P w K mg base (GK K) 1 (He.fAd K ("_law_dice", none)) 1 M__law_dice := fn__law_dice KX Gn c
  have h__law_rounds : FnD P w K mg base (GK K) 2 (He.fAd K ("_law_rounds", none)) 2 M__law_rounds := fn__law_rounds KX Gn c h__law_dice
  have h__law_roll : FnD P w K mg base (GK K) 1 (He.fAd K ("_law_roll", none)) 2 M__law_roll := fn__law_roll KX Gn c
  have h_check_thing : FnD P w K mg base (GK K) 1 (He.fAd K ("check_thing", none)) 3 M_check_thing := fn_check_thing KX Gn c
  have h_even : FnD P w K mg base (GK K) 2 (He.fAd K ("even", none)) 3 M_even := fn_even KX Gn c h_check_thing
  have h_is_slower : FnD P w K mg base (GK K) 4 (He.fAd K ("is_slower", none)) 2 M_is_slower := fn_is_slower KX Gn c tb nd2
  have h_with_parts : FnD P w K mg base (GK K) 4 (He.fAd K ("with_parts", none)) 1 M_with_parts := fn_with_parts KX Gn c h_even tb nd2
  have h_tested : FnD P w K mg base (GK K) 1 (He.fAd K ("tested", none)) 2 M_tested := fn_tested KX Gn c
  have h_cheaper : FnD P w K mg base (GK K) 1 (He.fAd K ("cheaper", none)) 4 M_cheaper := fn_cheaper KX Gn c
  have h_rounded : FnD P w K mg base (GK K) 1 (He.fAd K ("rounded", none)) 2 M_rounded := fn_rounded KX Gn c tup_RULES
  have h_part : FnD P w K mg base (GK K) 1 (He.fAd K ("part", none)) 2 M_part := fn_part KX Gn c
  have h_by_hand : FnD P w K mg base (GK K) 2 (He.fAd K ("by_hand", none)) 2 M_by_hand := fn_by_hand KX Gn c h_part h_rounded sup_Short
  have h_within_year : FnD P w K mg base (GK K) 1 (He.fAd K ("within_year", none)) 2 M_within_year := fn_within_year KX Gn c
  have h__law_more : FnD P w K mg base (GK K) 5 (He.fAd K ("_law_more", none)) 5 M__law_more := fn__law_more KX Gn c h_by_hand h_cheaper h_tested h__law_roll h_within_year h_with_parts
  have h_Stock_worth : FnD P w K mg base (GK K) 4 (He.fAd K ("Stock", some "worth")) 1 M_Stock_worth := fn_Stock_worth KX Gn c tb nd2
  have h_Stock_lowered : FnD P w K mg base (GK K) 5 (He.fAd K ("Stock", some "lowered")) 2 M_Stock_lowered := fn_Stock_lowered KX Gn c h_Stock_worth tb nd2
  have h_Stock___init__ : FnD P w K mg base (GK K) 1 (He.fAd K ("Stock", some "__init__")) 2 M_Stock___init__ := fn_Stock___init__ KX Gn c
  have h_Stock_there : FnD P w K mg base (GK K) 4 (He.fAd K ("Stock", some "there")) 1 M_Stock_there := fn_Stock_there KX Gn c tb nd2
  have h_Stock_look : FnD P w K mg base (GK K) 5 (He.fAd K ("Stock", some "look")) 1 M_Stock_look := fn_Stock_look KX Gn c h_Stock_worth h_Stock_there tb nd2
  have h_Stock_come : FnD P w K mg base (GK K) 1 (He.fAd K ("Stock", some "come")) 3 M_Stock_come := fn_Stock_come KX Gn c
  have h__law_cut : FnD P w K mg base (GK K) 1 (He.fAd K ("_law_cut", none)) 3 M__law_cut := fn__law_cut KX Gn c
  have h_Stock_come_back : FnD P w K mg base (GK K) 2 (He.fAd K ("Stock", some "come_back")) 2 M_Stock_come_back := fn_Stock_come_back KX Gn c h_Stock_come h_part h_rounded
  have h_Stock_go : FnD P w K mg base (GK K) 5 (He.fAd K ("Stock", some "go")) 2 M_Stock_go := fn_Stock_go KX Gn c h_part h_rounded h_Stock_there sup_Short
  have h__law_stock : FnD P w K mg base (GK K) 8 (He.fAd K ("_law_stock", none)) 1 M__law_stock := fn__law_stock KX Gn c h_Stock_look h_Stock_worth h_Stock_lowered h__law_roll h_Stock_come_back h_Stock_there h_Stock_come h_Stock_go h__law_cut h_Stock___init__ tb nd2
  have h_how_many : FnD P w K mg base (GK K) 4 (He.fAd K ("how_many", none)) 3 M_how_many := fn_how_many KX Gn c tb nd2
  have h_look_asked : FnD P w K mg base (GK K) 2 (He.fAd K ("look_asked", none)) 4 M_look_asked := fn_look_asked KX Gn c sup_Short
  have h_when_to_ask : FnD P w K mg base (GK K) 1 (He.fAd K ("when_to_ask", none)) 4 M_when_to_ask := fn_when_to_ask KX Gn c
  have h__law_asked : FnD P w K mg base (GK K) 5 (He.fAd K ("_law_asked", none)) 1 M__law_asked := fn__law_asked KX Gn c h_when_to_ask h_look_asked h_how_many h__law_roll tb nd2
  have h_times : FnD P w K mg base (GK K) 2 (He.fAd K ("times", none)) 2 M_times := fn_times KX Gn c h_part
  have h_falling : FnD P w K mg base (GK K) 3 (He.fAd K ("falling", none)) 4 M_falling := fn_falling KX Gn c h_times h_rounded h_check_thing
  have h_switched : FnD P w K mg base (GK K) 3 (He.fAd K ("switched", none)) 4 M_switched := fn_switched KX Gn c h_even h_times h_rounded h_check_thing
  have h_by_digits : FnD P w K mg base (GK K) 2 (He.fAd K ("by_digits", none)) 3 M_by_digits := fn_by_digits KX Gn c h_check_thing
  have h_by_use : FnD P w K mg base (GK K) 4 (He.fAd K ("by_use", none)) 4 M_by_use := fn_by_use KX Gn c tb nd2
  have h_left_after : FnD P w K mg base (GK K) 1 (He.fAd K ("left_after", none)) 2 M_left_after := fn_left_after KX Gn c
  have h_when_worn : FnD P w K mg base (GK K) 2 (He.fAd K ("when_worn", none)) 3 M_when_worn := fn_when_worn KX Gn c h_left_after
  have h_sold : FnD P w K mg base (GK K) 1 (He.fAd K ("sold", none)) 4 M_sold := fn_sold KX Gn c
  have h_order : FnD P w K mg base (GK K) 1 (He.fAd K ("order", none)) 2 M_order := fn_order KX Gn c
  have h_near : FnD P w K mg base (GK K) 2 (He.fAd K ("near", none)) 2 M_near := fn_near KX Gn c h_order
  have h_mean_wear : FnD P w K mg base (GK K) 2 (He.fAd K ("mean_wear", none)) 3 M_mean_wear := fn_mean_wear KX Gn c h_part h_check_thing
  exact fn_law KX Gn c h__law_rounds h_Stock___init__ h_by_hand h_falling h_even h__law_more h_sold h_when_worn h_is_slower h_mean_wear h_near h_left_after h_by_use h_by_digits h_switched h__law_roll h__law_asked h__law_stock tb nd2 F
end
theorem at_law {w : World} {K : PySem.W.Frag} {mg : Str → Option Value} {h : Heap} {ad : Addr} (KX : K.In h) (Gn : h.Ns mainGlobals mg) (hm : mg ("law" : Str) = some (.ref ad)) (c : He.SaysX fa fn [] tf exB w h K)
    (ok : ∀ (ns : List Int) (d : D) (S : Store), ns.length ≤ 63 → (∀ z ∈ ns, Builtin.Int.intBits z ≤ 1048576) → ScriptAt ns d S → ∃ S2, M_law [d] S = .ok (.bl true) S2) : LamX.LawAtS PySem.Challenge.rw_wagehall_k11_stock_and_wear w K (L2.CX PySem.Challenge.rw_wagehall_k11_stock_and_wear.prog w) 9 63 "script" mg ad h := by
  have cd := c.t.d
  obtain ⟨fd, F0⟩ := cd.def_ 40 (d := d_law) rfl
  have F : FunD K "law" "law" (defArgs s_law) (defBody s_law) (defScope s_law) [] [] (He.fAd K ("law", none)) fd := F0
  have e := hm.symm.trans (g_law KX Gn cd)
  cases e
  have b := FunD.bindsA (ps := ["script"]) F fun _ _ _ _ _ _ us hl => match us, hl with | [_], _ => rfl
  have more := c.more
  unfold exB at more
  simp only [Bool.and_eq_true] at more
  obtain ⟨nd0, sup_Short_b, tup_RULES_b⟩ := more
  have nd2 : (tf.map fun p => (He.cT K p).2).Nodup := of_decide_eq_true nd0
  have sup_Short := clsB_ok sup_Short_b rfl (fun _ _ _ _ _ _ _ _ _ _ _ _ _ _ _ _ _ => rfl) (fun _ => rfl) (fun _ => rfl) (fun _ => rfl) rfl
  have tup_RULES := tup_RULES_b
  refine ⟨fd, tf.map (He.cT K), spD K (GK K) 1 M_law, fun p hp => ?_, fun p hp => ?_, fun p hp => ?_, fun s v => b s [v] rfl, fun H a ns hl hb hT hS => ?_, fun base KB GB hB => ?_⟩
  · obtain ⟨q, hq, rfl⟩ := List.mem_map.mp hp
    exact c.empty q hq
  · obtain ⟨q, hq, rfl⟩ := List.mem_map.mp hp
    exact c.out q hq
  · obtain ⟨q, hq, rfl⟩ := List.mem_map.mp hp
    exact PySem.W.codeHd_of_K KX (c.hd q hq)
  · refine law_sp (fun p hp => ?_) hS fun d S hs => ok ns d S hl hb hs
    have hp2 : ∃ q ∈ tf, p.1 = (He.cT K q).2 := by
      simp only [GK, List.mem_cons, List.not_mem_nil, or_false] at hp
      rcases hp with rfl | rfl | rfl | rfl | rfl | rfl | rfl | rfl | rfl | rfl | rfl
      · exact ⟨_, (.head _), rfl⟩
      · exact ⟨_, (.tail _ (.head _)), rfl⟩
      · exact ⟨_, (.tail _ (.tail _ (.head _))), rfl⟩
      · exact ⟨_, (.tail _ (.tail _ (.tail _ (.head _)))), rfl⟩
      · exact ⟨_, (.tail _ (.tail _ (.tail _ (.tail _ (.head _))))), rfl⟩
      · exact ⟨_, (.tail _ (.tail _ (.tail _ (.tail _ (.tail _ (.head _)))))), rfl⟩
      · exact ⟨_, (.tail _ (.tail _ (.tail _ (.tail _ (.tail _ (.tail _ (.head _))))))), rfl⟩
      · exact ⟨_, (.tail _ (.tail _ (.tail _ (.tail _ (.tail _ (.tail _ (.tail _ (.head _)))))))), rfl⟩
      · exact ⟨_, (.tail _ (.tail _ (.tail _ (.tail _ (.tail _ (.tail _ (.tail _ (.tail _ (.head _))))))))), rfl⟩
      · exact ⟨_, (.tail _ (.tail _ (.tail _ (.tail _ (.tail _ (.tail _ (.tail _ (.tail _ (.tail _ (.head _)))))))))), rfl⟩
      · exact ⟨_, (.tail _ (.tail _ (.tail _ (.tail _ (.tail _ (.tail _ (.tail _ (.tail _ (.tail _ (.tail _ (.head _))))))))))), rfl⟩
    obtain ⟨q, hq, e⟩ := hp2
    exact LamX.TabS.nil (e ▸ hT _ (List.mem_map.mpr ⟨q, hq, rfl⟩))
  · exact walk_law (P := PySem.Challenge.rw_wagehall_k11_stock_and_wear.prog) KX Gn cd sup_Short tup_RULES (fun p hp => hB _ (List.mem_map.mpr ⟨p, hp, rfl⟩)) nd2 F
end Pr
open PySem PySem.W PySem.Calls PyProof.Rows
theorem holds_it (ok : ∀ (ns : List Int) (d : DL.D) (S : DL.Store), ns.length ≤ 63 → (∀ z ∈ ns, Builtin.Int.intBits z ≤ 1048576) → DL.ScriptAt ns d S → ∃ S2, Pr.M_law [d] S = .ok (.bl true) S2) : PySem.Challenge.rw_wagehall_k11_stock_and_wear.Holds := by
  w_on; o_law
  refine HandSHeadRun.head_any (r := OpenLaw.row PySem.Challenge.rw_wagehall_k11_stock_and_wear) (q := view (OpenLaw.row PySem.Challenge.rw_wagehall_k11_stock_and_wear).prog [48]) (H := Pr.hk) (ob := Pr.ob) (M := 20000) (loose := Pr.names) (d := HandSHeadRun.topDef (OpenLaw.row PySem.Challenge.rw_wagehall_k11_stock_and_wear).prog 48) (kwd := []) Pr.ob_eq
    (by kernel_rfl) (fun s => by kernel_rfl) Pr.run (by kernel_rfl) (by kernel_rfl) (by kernel_rfl) (by rfl) (by first | assumption | decide +kernel) (by decide +kernel) ⟨rfl, rfl, rfl, rfl, rfl, by decide +kernel⟩ ?hw ?hc
  case hw => w_witness2
  case hc =>
    refine LamX.walk_ofTsE (l := PySem.Challenge.rw_wagehall_k11_stock_and_wear) (n := 63) (k := 9) (x := "script") (CX := fun w => L2.CX PySem.Challenge.rw_wagehall_k11_stock_and_wear.prog w) rfl (by decide) (by kernel_rfl) ⟨rfl, by decide, by decide⟩ ?F (fun w H s e s2 z => ?cx)
    case cx =>
      obtain ⟨_, _, _, _, _, _, _, _, _, _, _, _, z⟩ := z
      exact z
    intro w mg ad h Y G hmg0
    obtain ⟨K, KX, c⟩ := Y
    have hmg : mg ("law" : PySem.Str) = some (.ref ad) := by
      have e : (HandSHeadRun.topDef (OpenLaw.row PySem.Challenge.rw_wagehall_k11_stock_and_wear).prog 48).name = ("law" : PySem.Str) := by kernel_rfl
      rw [← e]
      exact hmg0
    exact ⟨K, KX, Pr.at_law KX G hmg c ok⟩
set_option Elab.async false
set_option linter.all false
set_option maxRecDepth 100000
set_option maxHeartbeats 1000000
/-! DLE: the denotations, evaluated by simp. -/
namespace DL
open PySem PySem.Spec PyProof.Rows L2
theorem bind_congr1 {α β : Type} {o o2 : Out α} {k : α → Store → Out β} (h : o = o2) : o.bind k = o2.bind k := by rw [h]
theorem liftS_congr1 {α : Type} {o o2 : Out α} {ρ : DEnv} {k : α → Store → OutS} (h : o = o2) : liftS o ρ k = liftS o2 ρ k := by rw [h]
def seqS (o : OutS) (g : DS) : OutS := match o with
  | .nx ρ S => g ρ S
  | o => o
theorem seqS_congr1 {o o2 : OutS} {g : DS} (h : o = o2) : seqS o g = seqS o2 g := by rw [h]
@[simp] theorem seqS_nx (ρ : DEnv) (S : Store) (g : DS) : seqS (.nx ρ S) g = g ρ S := rfl
@[simp] theorem seqS_rt (d : D) (S : Store) (g : DS) : seqS (.rt d S) g = .rt d S := rfl
@[simp] theorem seqS_exn (e : Exc) (ρ : DEnv) (S : Store) (g : DS) : seqS (.exn e ρ S) g = .exn e ρ S := rfl
@[simp] theorem seqS_bk (ρ : DEnv) (S : Store) (g : DS) : seqS (.bk ρ S) g = .bk ρ S := rfl
@[simp] theorem seqS_ct (ρ : DEnv) (S : Store) (g : DS) : seqS (.ct ρ S) g = .ct ρ S := rfl
def finS (o : OutS) : Out D := match o with
  | .nx _ S1 => .ok .non S1
  | .rt d S1 => .ok d S1
  | .exn e _ S1 => .exn e S1
  | _ => .bad
@[simp] theorem finS_nx (ρ : DEnv) (S : Store) : finS (.nx ρ S) = .ok .non S := rfl
@[simp] theorem finS_rt (d : D) (S : Store) : finS (.rt d S) = .ok d S := rfl
@[simp] theorem finS_exn (e : Exc) (ρ : DEnv) (S : Store) : finS (.exn e ρ S) = .exn e S := rfl
def asgS (o : OutS) : OutS := match o with
  | .nx ρ S => .nx ρ S
  | .exn e ρ S => .exn e ρ S
  | _ => .bad
@[simp] theorem asgS_nx (ρ : DEnv) (S : Store) : asgS (.nx ρ S) = .nx ρ S := rfl
@[simp] theorem asgS_exn (e : Exc) (ρ : DEnv) (S : Store) : asgS (.exn e ρ S) = .exn e ρ S := rfl
def optV : Option (Option D) → Store → Out D
  | some (some d), S => .ok d S
  | _, _ => .bad
@[simp] theorem optV_some (d : D) (S : Store) : optV (some (some d)) S = .ok d S := rfl
def boolO (x : D) (S : Store) : Out Bool := match x with
  | .bl b => .ok b S
  | _ => .bad
@[simp] theorem boolO_bl (b : Bool) (S : Store) : boolO (.bl b) S = .ok b S := rfl
def fldO (o : Option (String × List (Str × D))) (cs : List String) (f : Str) (S : Store) : Out D := match o with
  | some (c, fs) => if c ∈ cs then (match fs.lookup f with
    | some d => .ok d S
    | none => .bad) else .bad
  | none => .bad
section
variable (ρ : DEnv) (S : Store) (fa fb fc fe fo fi : DE) (ga gb : DT) (fr : DA) (f g : DS)
@[simp] theorem e_runD (n : Nat) (ds : List D) : runD n f ds S = finS (f (startD n ds) S) := rfl
@[simp] theorem e_dVar (i : Nat) : dVar i ρ S = optV ρ[i]? S := by
  unfold dVar optV
  cases h : ρ[i]? with
  | none => rfl
  | some o => cases o <;> rfl
@[simp] theorem e_dC (d : D) : dC d ρ S = .ok d S := rfl
@[simp] theorem e_dOp (o : D2) : dOp o fa fb ρ S = (fa ρ S).bind fun x S1 => (fb ρ S1).bind fun y S2 => optO (o x y S2) := rfl
@[simp] theorem e_dUn (o : D1) : dUn o fa ρ S = (fa ρ S).bind fun x S1 => optO (o x S1) := rfl
@[simp] theorem e_dB : dB fa ρ S = (fa ρ S).bind boolO := rfl
@[simp] theorem e_dAndT : dAndT ga gb ρ S = (ga ρ S).bind fun x S1 => if x = true then gb ρ S1 else .ok false S1 := rfl
@[simp] theorem e_dOrT : dOrT ga gb ρ S = (ga ρ S).bind fun x S1 => if x = true then .ok true S1 else gb ρ S1 := rfl
@[simp] theorem e_dNotT : dNotT ga ρ S = (ga ρ S).bind fun x S1 => .ok (!x) S1 := rfl
@[simp] theorem e_dIf : dIf ga fa fb ρ S = (ga ρ S).bind fun x S1 => if x = true then fa ρ S1 else fb ρ S1 := rfl
@[simp] theorem e_daNil : daNil ρ S = .ok [] S := rfl
@[simp] theorem e_daCons : daCons fa fr ρ S = (fa ρ S).bind fun x S1 => (fr ρ S1).bind fun xs S2 => .ok (x :: xs) S2 := rfl
@[simp] theorem e_dTup : dTup fr ρ S = (fr ρ S).bind fun xs S1 => if xs.length ≤ 1000000 then .ok (.tup xs) S1 else .bad := rfl
@[simp] theorem e_dLst : dLst fr ρ S = (fr ρ S).bind fun xs S1 => if xs.length ≤ 1000000 then .ok (.obj S1.length) (S1 ++ [.lst xs]) else .bad := rfl
@[simp] theorem e_dCall (n : Nat) (F : DF) : dCall n F fr ρ S = (fr ρ S).bind fun ds S1 => if ds.length = n then F ds S1 else .bad := rfl
@[simp] theorem e_dBlt (o : DB) : dBlt o fr ρ S = (fr ρ S).bind fun ds S1 => optO (o ds S1) := rfl
@[simp] theorem e_dNext : dNext ρ S = .nx ρ S := rfl
@[simp] theorem e_dSeq : dSeq f g ρ S = seqS (f ρ S) g := by
  unfold dSeq seqS
  cases f ρ S <;> rfl
@[simp] theorem e_dRaise (c : String) : dRaise c ρ S = .exn ⟨c⟩ ρ S := rfl
@[simp] theorem e_dRet : dRet fe ρ S = liftS (fe ρ S) ρ fun d S1 => .rt d S1 := rfl
@[simp] theorem e_dDrop : dDrop fe ρ S = liftS (fe ρ S) ρ fun _ S1 => .nx ρ S1 := rfl
@[simp] theorem e_dIfS : dIfS ga f g ρ S = liftS (ga ρ S) ρ fun b S1 => if b = true then f ρ S1 else g ρ S1 := rfl
@[simp] theorem e_dAsg (tg : DG) : dAsg fe tg ρ S = liftS (fe ρ S) ρ fun d S1 => asgS (tg d ρ S1) := rfl
@[simp] theorem e_gN (i : Nat) (d : D) : gN i d ρ S = .nx (ρ.set i (some d)) S := rfl
@[simp] theorem e_gsNil : gsNil [] ρ S = .nx ρ S := rfl
@[simp] theorem e_gsCons (g : DG) (gs : DGs) (d : D) (ds : List D) : gsCons g gs (d :: ds) ρ S = seqS (asgS (g d ρ S)) (gs ds) := by
  show (match g d ρ S with
    | .nx ρ1 S1 => gs ds ρ1 S1
    | .exn e ρ1 S1 => .exn e ρ1 S1
    | _ => .bad) = _
  cases h : g d ρ S <;> rfl
def gT_go (o : Option (List D)) (n : Nat) (gs : DGs) (ρ : DEnv) (S : Store) : OutS := match o with
  | some xs => if xs.length = n then gs xs ρ S else .bad
  | none => .bad
@[simp] theorem gT_some (xs : List D) (n : Nat) (gs : DGs) : gT_go (some xs) n gs ρ S = if xs.length = n then gs xs ρ S else .bad := rfl
@[simp] theorem e_gT (n : Nat) (gs : DGs) (d : D) : gT n gs d ρ S = gT_go (seqAt S d) n gs ρ S := rfl
def par2 (i j : Nat) (ρ : DEnv) (ds : List D) (S : Store) : OutS := match ds with
  | [d, e] => .nx ((ρ.set i (some d)).set j (some e)) S
  | _ => .bad
@[simp] theorem par2_two (i j : Nat) (d e : D) : par2 i j ρ [d, e] S = .nx ((ρ.set i (some d)).set j (some e)) S := rfl
@[simp] theorem e_dPar2 (i j : Nat) : dPar2 i j fr ρ S = liftS (fr ρ S) ρ (par2 i j ρ) := rfl
def par3 (i j l : Nat) (ρ : DEnv) (ds : List D) (S : Store) : OutS := match ds with
  | [d, e, g] => .nx (((ρ.set i (some d)).set j (some e)).set l (some g)) S
  | _ => .bad
@[simp] theorem par3_three (i j l : Nat) (d e g : D) : par3 i j l ρ [d, e, g] S = .nx (((ρ.set i (some d)).set j (some e)).set l (some g)) S := rfl
@[simp] theorem e_dPar3 (i j l : Nat) : dPar3 i j l fr ρ S = liftS (fr ρ S) ρ (par3 i j l ρ) := rfl
@[simp] theorem fldO_some (c : String) (fs : List (Str × D)) (cs : List String) (x : Str) : fldO (some (c, fs)) cs x S = if c ∈ cs then (match fs.lookup x with
    | some d => .ok d S
    | none => .bad) else .bad := rfl
@[simp] theorem e_dFld (cs : List String) (x : Str) : dFld cs x fa ρ S = (fa ρ S).bind fun d S1 => fldO (insAt S1 d) cs x S1 := rfl
def methO (c : String) (mt : Str) (n : Nat) (F : DF) (fr : DA) (ρ : DEnv) (S : Store) (x : D) (o : Option (String × List (Str × D))) : Out D := match o with
  | some (c', fs) => if c' = c ∧ fs.lookup mt = none then (fr ρ S).bind fun ds S2 => if ds.length + 1 = n then F (x :: ds) S2 else .bad else .bad
  | none => .bad
@[simp] theorem methO_some (c : String) (mt : Str) (n : Nat) (F : DF) (x : D) (c' : String) (fs : List (Str × D)) : methO c mt n F fr ρ S x (some (c', fs)) = if c' = c ∧ fs.lookup mt = none then (fr ρ S).bind fun ds S2 => if ds.length + 1 = n then F (x :: ds) S2 else .bad else .bad := rfl
@[simp] theorem e_dMeth (c : String) (mt : Str) (n : Nat) (F : DF) : dMeth c mt n F fo fr ρ S = (fo ρ S).bind fun x S1 => methO c mt n F fr ρ S1 x (insAt S1 x) := rfl
def madeO (k : Nat) (r : D) (S : Store) : Out D := match r with
  | .non => .ok (.obj k) S
  | _ => .bad
@[simp] theorem madeO_non (k : Nat) : madeO k .non S = .ok (.obj k) S := rfl
@[simp] theorem e_dMake (c : String) (n : Nat) (F : DF) : dMake c n F fr ρ S = (fr ρ S).bind fun ds S1 => if ds.length + 1 = n then (F (.obj S1.length :: ds) (S1 ++ [.ins c []])).bind (madeO S1.length) else .bad := rfl
def putO (cs : List String) (x : Str) (ρ : DEnv) (S : Store) (d o : D) (q : Option (String × List (Str × D))) : OutS := match o, q with
  | .obj n, some (c, fs) => if c ∈ cs ∧ fs.length < 1000 then .nx ρ (S.set n (.ins c (putD x d fs))) else .bad
  | _, _ => .bad
@[simp] theorem putO_some (cs : List String) (x : Str) (d : D) (n : Nat) (c : String) (fs : List (Str × D)) : putO cs x ρ S d (.obj n) (some (c, fs)) = if c ∈ cs ∧ fs.length < 1000 then .nx ρ (S.set n (.ins c (putD x d fs))) else .bad := rfl
@[simp] theorem e_dPutF (cs : List String) (x : Str) : dPutF cs x fo fe ρ S = liftS (fe ρ S) ρ fun d S1 => liftS (fo ρ S1) ρ fun o S2 => putO cs x ρ S2 d o (insAt S2 o) := rfl
end
/-! ### numbers -/
@[simp] theorem sh_int (i : Int) : SeqAt.shaped (.int i) = true := rfl
@[simp] theorem eqD_int (i j : Int) (S : Store) : eqD (.int i) (.int j) S = some (.bl (decide (i = j)), S) := by
  simp [eqD, D.toPS, D.toP, PyData.eqv]
  cases h : (i == j) <;> simp_all
@[simp] theorem neD_int (i j : Int) (S : Store) : neD (.int i) (.int j) S = some (.bl (!decide (i = j)), S) := by
  simp [neD, D.toPS, D.toP, PyData.eqv]
  cases h : (i == j) <;> simp_all
@[simp] theorem addD_int (i j : Int) (S : Store) : addD (.int i) (.int j) S = some (.int (i + j), S) := rfl
@[simp] theorem subD_int (i j : Int) (S : Store) : subD (.int i) (.int j) S = some (.int (i - j), S) := rfl
@[simp] theorem subD_bl (i j : Bool) (S : Store) : subD (.bl i) (.bl j) S = some (.int (b2 i - b2 j), S) := rfl
@[simp] theorem cmpI_int (p : Int → Int → Bool) (i j : Int) (S : Store) : cmpI p (.int i) (.int j) S = some (.bl (p i j), S) := rfl
@[simp] theorem ixD_tup (xs : List D) (k : Int) (S : Store) : ixD (.tup xs) (.int k) S = (atI xs k).map fun d => (d, S) := rfl
@[simp] theorem negD_int (i : Int) (S : Store) : negD (.int i) S = some (.int (-i), S) := rfl
theorem modD_int {i j : Int} {S : Store} (h : 0 < j) : modD (.int i) (.int j) S = some (.int (i % j), S) := by simp [modD, h]
theorem log2_lt' {a n : Nat} (h : a < 2 ^ n) (hn : 0 < n) : a.log2 < n := by
  by_cases h0 : a = 0
  · subst h0; simpa using hn
  · exact (Nat.log2_lt h0).mpr h
theorem mulD_int {i j : Int} {S : Store} (h1 : i.natAbs < 2 ^ 9000) (h2 : j.natAbs < 2 ^ 9000) : mulD (.int i) (.int j) S = some (.int (i * j), S) := by
  have a := log2_lt' h1 (by decide)
  have b := log2_lt' h2 (by decide)
  exact if_pos (.inr (by omega))
theorem fdivD_int {i j : Int} {S : Store} (h : 0 < j) (h2 : j.natAbs < 2 ^ 9000) : fdivD (.int i) (.int j) S = some (.int (i / j), S) := by
  have b := log2_lt' h2 (by decide)
  exact if_pos ⟨h, b⟩
theorem abs_nat (i : Int) : (if i < 0 then -i else i) = (i.natAbs : Int) := by split <;> omega
@[simp] theorem absD_int (i : Int) (S : Store) : absD [.int i] S = some (.int (i.natAbs : Int), S) := by
  simp only [absD, abs_nat]
@[simp] theorem maxD_int (i j : Int) (S : Store) : maxD [.int i, .int j] S = some (.int (max i j), S) := by
  simp only [maxD]
  congr 3
  split <;> omega
@[simp] theorem minD_int (i j : Int) (S : Store) : minD [.int i, .int j] S = some (.int (min i j), S) := by
  simp only [minD]
  congr 3
  split <;> omega
theorem atI_nat (xs : List D) (j : Nat) : atI xs (j : Int) = xs[j]? := by
  unfold atI ixN
  by_cases h : j < xs.length
  · rw [if_pos (by omega), if_pos (by omega)]; rfl
  · rw [if_pos (by omega), if_neg (by omega), List.getElem?_eq_none (by omega)]; rfl
@[simp] theorem atI_lit (xs : List D) (n : Nat) : atI xs (@OfNat.ofNat Int n instOfNat) = xs[n]? := atI_nat xs n
@[simp] theorem atI_zero (xs : List D) : atI xs 0 = xs[0]? := atI_nat xs 0
@[simp] theorem atI_one (xs : List D) : atI xs 1 = xs[1]? := atI_nat xs 1
end DL
set_option Elab.async false
set_option linter.all false
set_option maxRecDepth 100000
set_option maxHeartbeats 1000000
/-! DLE2: loops, comprehensions, the store, evaluated by simp. -/
namespace DL
open PySem PySem.Spec PyProof.Rows L2
/-! ### for -/
def forK (o : OutS) (k : DS) : OutS := match o with
  | .nx ρ S => k ρ S
  | .ct ρ S => k ρ S
  | .bk ρ S => .nx ρ S
  | o => o
theorem forK_congr1 {o o2 : OutS} {k : DS} (h : o = o2) : forK o k = forK o2 k := by rw [h]
@[simp] theorem forK_nx (ρ : DEnv) (S : Store) (k : DS) : forK (.nx ρ S) k = k ρ S := rfl
@[simp] theorem forK_ct (ρ : DEnv) (S : Store) (k : DS) : forK (.ct ρ S) k = k ρ S := rfl
@[simp] theorem forK_bk (ρ : DEnv) (S : Store) (k : DS) : forK (.bk ρ S) k = .nx ρ S := rfl
@[simp] theorem forK_rt (d : D) (S : Store) (k : DS) : forK (.rt d S) k = .rt d S := rfl
@[simp] theorem forK_exn (e : Exc) (ρ : DEnv) (S : Store) (k : DS) : forK (.exn e ρ S) k = .exn e ρ S := rfl
section
variable (ρ : DEnv) (S : Store) (fa fb fc fe fo : DE) (ga gb : DT) (fr : DA) (f : DS) (tg : DG) (grd : Store → Bool)
@[simp] theorem grdT_eq : grdT S = true := rfl
@[simp] theorem e_dFor (fi : DI) : dFor fi tg f ρ S = liftS (fi ρ S) ρ fun src S1 => forD src.grd tg f src.items ρ S1 := rfl
@[simp] theorem forD_nil : forD grd tg f [] ρ S = if grd S = true then .nx ρ S else .bad := rfl
@[simp] theorem forD_cons (d : D) (ds : List D) : forD grd tg f (d :: ds) ρ S = if grd S = true then forK (seqS (asgS (tg d ρ S)) f) (forD grd tg f ds) else .bad := by
  rw [forD]
  congr 1
  cases tg d ρ S with
  | nx ρ1 S1 =>
    dsimp only [asgS_nx, seqS_nx]
    cases f ρ1 S1 <;> rfl
  | _ => rfl
@[simp] theorem e_diRange1 : diRange1 fe ρ S = (fe ρ S).bind fun d S1 => match d with
  | .int j => if -1000000000000 ≤ j ∧ j ≤ 1000000000000 then .ok ⟨rngD 0 1 j.toNat, grdT⟩ S1 else .bad
  | _ => .bad := rfl
@[simp] theorem e_diRev1 : diRev1 fe ρ S = (fe ρ S).bind fun d S1 => match d with
  | .int j => if -1000000000000 ≤ j ∧ j ≤ 1000000000000 then .ok ⟨rngD (j - 1) (-1) j.toNat, grdT⟩ S1 else .bad
  | _ => .bad := rfl
@[simp] theorem e_diRange2 : diRange2 fa fb ρ S = (fa ρ S).bind fun d S1 => (fb ρ S1).bind fun e S2 => match d, e with
  | .int i, .int j => if (-1000000000000 ≤ i ∧ i ≤ 1000000000000) ∧ -1000000000000 ≤ j ∧ j ≤ 1000000000000 then .ok ⟨rngD i 1 (j - i).toNat, grdT⟩ S2 else .bad
  | _, _ => .bad := rfl
@[simp] theorem e_diSeq : diSeq fe ρ S = (fe ρ S).bind fun d S1 => optO (srcOf d S1) := rfl
@[simp] theorem e_diEnum : diEnum fe ρ S = (fe ρ S).bind fun d S1 => optO (enumOf d S1) := rfl
@[simp] theorem srcOf_tup (xs : List D) : srcOf (.tup xs) S = some (⟨xs, grdT⟩, S) := rfl
@[simp] theorem srcOf_fl (xs : List D) : srcOf (.fl xs) S = some (⟨xs, grdT⟩, S) := rfl
@[simp] theorem srcOf_obj (n : Nat) : srcOf (.obj n) S = (lstAt S n).map fun xs => (⟨xs, grdL n xs⟩, S) := rfl
@[simp] theorem enumOf_tup (xs : List D) : enumOf (.tup xs) S = some (⟨enumL xs, grdT⟩, S) := rfl
@[simp] theorem rngD_zero (lo c : Int) : rngD lo c 0 = [] := rfl
theorem rngD_succ (lo c : Int) (n : Nat) : rngD lo c (n + 1) = .int lo :: rngD (lo + c) c n := by
  unfold rngD
  rw [List.range_succ_eq_map, List.map_cons, List.map_map]
  congr 1
  · simp
  · refine List.map_congr_left fun i _ => ?_
    simp only [Function.comp, D.int.injEq]
    show lo + ((i + 1 : Nat) : Int) * c = lo + c + (i : Int) * c
    rw [Int.natCast_add, Int.add_mul]
    simp; omega
@[simp] theorem rng_1 : rngD 0 1 1 = [.int 0] := rfl
@[simp] theorem rng_2 : rngD 0 1 2 = [.int 0, .int 1] := rfl
@[simp] theorem rng_3 : rngD 0 1 3 = [.int 0, .int 1, .int 2] := rfl
@[simp] theorem rng_4 : rngD 0 1 4 = [.int 0, .int 1, .int 2, .int 3] := rfl
@[simp] theorem rng_5 : rngD 0 1 5 = [.int 0, .int 1, .int 2, .int 3, .int 4] := rfl
@[simp] theorem rev_1 : rngD 0 (-1) 1 = [.int 0] := rfl
@[simp] theorem rev_2 : rngD 1 (-1) 2 = [.int 1, .int 0] := rfl
@[simp] theorem rev_3 : rngD 2 (-1) 3 = [.int 2, .int 1, .int 0] := rfl
@[simp] theorem rev_4 : rngD 3 (-1) 4 = [.int 3, .int 2, .int 1, .int 0] := rfl
/-! ### comprehensions -/
def outU (n : Nat) (k : Store → Out Unit) (y : D) (S : Store) : Out Unit := match lstAt S n with
  | some acc => if acc.length < 1000000 then k (S.set n (.lst (acc ++ [y]))) else .bad
  | none => .bad
theorem outU_some {n : Nat} {k : Store → Out Unit} {y : D} {S : Store} {acc : List D} (h : lstAt S n = some acc) (h2 : acc.length < 1000000) : outU n k y S = k (S.set n (.lst (acc ++ [y]))) := by
  unfold outU
  rw [h]
  exact if_pos h2
/-- what a comprehension's part may end in -/
def lcE {α β : Type} (o : Out α) (k : α → Store → Out β) : Out β := match o with
  | .ok a S => k a S
  | _ => .bad
theorem lcE_congr1 {α β : Type} {o o2 : Out α} {k : α → Store → Out β} (h : o = o2) : lcE o k = lcE o2 k := by rw [h]
@[simp] theorem lcE_ok {α β : Type} (a : α) (S : Store) (k : α → Store → Out β) : lcE (.ok a S) k = k a S := rfl
def lcG {β : Type} (o : OutS) (k : DEnv → Store → Out β) : Out β := match o with
  | .nx ρ S => k ρ S
  | _ => .bad
theorem lcG_congr1 {β : Type} {o o2 : OutS} {k : DEnv → Store → Out β} (h : o = o2) : lcG o k = lcG o2 k := by rw [h]
@[simp] theorem lcG_nx {β : Type} (ρ : DEnv) (S : Store) (k : DEnv → Store → Out β) : lcG (.nx ρ S) k = k ρ S := rfl
@[simp] theorem e_dYes : dYes ρ S = .ok true S := rfl
@[simp] theorem e_dLc (fi : DI) (tt : DT) (vs : List Nat) : dLc fi tg tt fe vs ρ S = (fi ρ S).bind fun src S1 => (lcD src.grd tg tt fe S1.length (wipeD ρ vs) src.items (S1 ++ [.lst []])).bind fun _ S2 => .ok (.obj S1.length) S2 := rfl
@[simp] theorem lcD_nil (tt : DT) (n : Nat) : lcD grd tg tt fe n ρ [] S = if grd S = true then .ok () S else .bad := rfl
@[simp] theorem lcD_cons (tt : DT) (n : Nat) (d : D) (ds : List D) : lcD grd tg tt fe n ρ (d :: ds) S = if grd S = true then lcG (tg d ρ S) (fun ρ1 S1 => lcE (tt ρ1 S1) fun b S2 => if b = true then lcE (fe ρ1 S2) (outU n (lcD grd tg tt fe n ρ ds)) else lcD grd tg tt fe n ρ ds S2) else .bad := by
  rw [lcD]
  congr 1
  cases tg d ρ S with
  | nx ρ1 S1 =>
    dsimp only [lcG_nx]
    cases tt ρ1 S1 with
    | ok b S2 =>
      cases b with
      | true =>
        dsimp only [lcE_ok]
        rw [if_pos rfl]
        cases fe ρ1 S2 <;> rfl
      | false => rfl
    | _ => rfl
  | _ => rfl
@[simp] theorem wipeD_nil : wipeD ρ [] = ρ := rfl
@[simp] theorem wipeD_cons (v : Nat) (vs : List Nat) : wipeD ρ (v :: vs) = (wipeD ρ vs).set v none := rfl
@[simp] theorem e_dLc2 (fi : DI) (tt : DT) (fi1 : DI) (g1 : DG) (tt1 : DT) (vs vs1 : List Nat) : dLc2 fi tg tt fi1 g1 tt1 fe vs vs1 ρ S = (fi ρ S).bind fun src S1 => (lcD2 src.grd tg tt fi1 g1 tt1 fe vs1 S1.length (wipeD ρ vs) src.items (S1 ++ [.lst []])).bind fun _ S2 => .ok (.obj S1.length) S2 := rfl
@[simp] theorem lcD2_nil (tt : DT) (fi1 : DI) (g1 : DG) (tt1 : DT) (vs1 : List Nat) (n : Nat) : lcD2 grd tg tt fi1 g1 tt1 fe vs1 n ρ [] S = if grd S = true then .ok () S else .bad := rfl
@[simp] theorem lcD2_cons (tt : DT) (fi1 : DI) (g1 : DG) (tt1 : DT) (vs1 : List Nat) (n : Nat) (d : D) (ds : List D) : lcD2 grd tg tt fi1 g1 tt1 fe vs1 n ρ (d :: ds) S = if grd S = true then lcG (tg d ρ S) (fun ρ1 S1 => lcE (tt ρ1 S1) fun b S2 => if b = true then lcE (fi1 ρ1 S2) (fun src S3 => (lcD src.grd g1 tt1 fe n (wipeD ρ1 vs1) src.items S3).bind fun _ S4 => lcD2 grd tg tt fi1 g1 tt1 fe vs1 n ρ ds S4) else lcD2 grd tg tt fi1 g1 tt1 fe vs1 n ρ ds S2) else .bad := by
  rw [lcD2]
  congr 1
  cases tg d ρ S with
  | nx ρ1 S1 =>
    dsimp only [lcG_nx]
    cases tt ρ1 S1 with
    | ok b S2 =>
      cases b with
      | true =>
        dsimp only [lcE_ok]
        rw [if_pos rfl]
        cases fi1 ρ1 S2 <;> rfl
      | false => rfl
    | _ => rfl
  | _ => rfl
/-! ### append, slices, augmented -/
def appO (fe : DE) (ρ : DEnv) (n : Nat) (S : Store) : Option (List D) → Out D
  | some _ => (fe ρ S).bind fun d S2 => (match lstAt S2 n with
      | some xs => if xs.length < 1000000 then .ok .non (S2.set n (.lst (xs ++ [d]))) else .bad
      | none => .bad)
  | none => .bad
def app2 (n : Nat) (d : D) (S : Store) : Option (List D) → Out D
  | some xs => if xs.length < 1000000 then .ok .non (S.set n (.lst (xs ++ [d]))) else .bad
  | none => .bad
@[simp] theorem app2_some (n : Nat) (d : D) (xs : List D) : app2 n d S (some xs) = if xs.length < 1000000 then .ok .non (S.set n (.lst (xs ++ [d]))) else .bad := rfl
@[simp] theorem appO_some (n : Nat) (xs : List D) : appO fe ρ n S (some xs) = (fe ρ S).bind fun d S2 => app2 n d S2 (lstAt S2 n) := by
  unfold appO
  congr 1
@[simp] theorem e_dApp : dApp fo fe ρ S = (fo ρ S).bind fun o S1 => match o with
  | .obj n => appO fe ρ n S1 (lstAt S1 n)
  | _ => .bad := by
  unfold dApp
  congr 1
@[simp] theorem e_dSl (fl fh : DP) : dSl fa fl fh ρ S = (fa ρ S).bind fun x S1 => (fl ρ S1).bind fun l S2 => (fh ρ S2).bind fun h S3 => optO (sliceD x l h S3) := rfl
@[simp] theorem e_dpNone : dpNone ρ S = .ok none S := rfl
@[simp] theorem e_dpSome : dpSome fa ρ S = (fa ρ S).bind fun x S1 => match x with
  | .int i => .ok (some i) S1
  | _ => .bad := rfl
def augO (i : Nat) (ρ : DEnv) : Option (D × Store) → OutS
  | some (d, S2) => .nx (ρ.set i (some d)) S2
  | none => .bad
@[simp] theorem augO_some (i : Nat) (d : D) : augO i ρ (some (d, S)) = .nx (ρ.set i (some d)) S := rfl
def augS (i : Nat) (o : D2) (fe : DE) (ρ : DEnv) (S : Store) : Option (Option D) → OutS
  | some (some x) => liftS (fe ρ S) ρ fun y S1 => augO i ρ (o x y S1)
  | _ => .bad
@[simp] theorem augS_some (i : Nat) (o : D2) (x : D) : augS i o fe ρ S (some (some x)) = liftS (fe ρ S) ρ fun y S1 => augO i ρ (o x y S1) := rfl
@[simp] theorem e_dAug (i : Nat) (o : D2) : dAug i o fe ρ S = augS i o fe ρ S ρ[i]? := by
  unfold dAug augS
  cases ρ[i]? with
  | none => rfl
  | some x => cases x with
    | none => rfl
    | some d =>
      dsimp only
      congr 1
end
@[simp] theorem e_tupleD (d : D) (S : Store) : tupleD [d] S = (seqAt S d).map fun xs => (.tup xs, S) := rfl
@[simp] theorem e_listD (d : D) (S : Store) : listD [d] S = (seqAt S d).map fun xs => newO (.lst xs) S := rfl
@[simp] theorem e_lenT (xs : List D) (S : Store) : lenD [.tup xs] S = some (.int xs.length, S) := rfl
@[simp] theorem e_lenO (n : Nat) (S : Store) : lenD [.obj n] S = (lstAt S n).map fun xs => (.int xs.length, S) := rfl
@[simp] theorem e_newO (o : DO) (S : Store) : newO o S = (.obj S.length, S ++ [o]) := rfl
@[simp] theorem e_intD (i : Int) (S : Store) : intD [.int i] S = some (.int i, S) := rfl
@[simp] theorem e_intB (b : Bool) (S : Store) : intD [.bl b] S = some (.int (if b = true then 1 else 0), S) := rfl
/-! ### the store -/
section
variable (S T : Store) (k : Nat)
@[simp] theorem lstAt_cons0 (xs : List D) : lstAt (.lst xs :: T) 0 = some xs := rfl
@[simp] theorem lstAt_consS (o : DO) : lstAt (o :: T) (k + 1) = lstAt T k := rfl
@[simp] theorem lstAt_app : lstAt (S ++ T) (S.length + k) = lstAt T k := by
  unfold lstAt
  rw [List.getElem?_append_right (by omega)]
  simp
@[simp] theorem lstAt_app0 : lstAt (S ++ T) S.length = lstAt T 0 := lstAt_app S T 0
theorem lstAt_old {n : Nat} (h : n < S.length) : lstAt (S ++ T) n = lstAt S n := by
  unfold lstAt
  rw [List.getElem?_append_left h]
theorem lstAt_keep {n : Nat} {xs : List D} (h : lstAt S n = some xs) : lstAt (S ++ T) n = some xs := by
  have hn : n < S.length := by
    by_cases z : n < S.length
    · exact z
    · unfold lstAt at h
      rw [List.getElem?_eq_none (by omega)] at h
      cases h
  rw [lstAt_old S T hn, h]
@[simp] theorem set_app (o : DO) : (S ++ T).set (S.length + k) o = S ++ T.set k o := by
  rw [List.set_append_right _ _ (by omega)]
  simp
@[simp] theorem set_app0 (o : DO) : (S ++ T).set S.length o = S ++ T.set 0 o := set_app S T 0 o
theorem insAt_keep {d : D} {x : String × List (Str × D)} (h : insAt S d = some x) : insAt (S ++ T) d = some x := by
  cases d with
  | obj n =>
    have e : insAt (S ++ T) (.obj n) = insAt S (.obj n) := by
      unfold insAt
      by_cases z : n < S.length
      · dsimp only; rw [List.getElem?_append_left z]
      · exfalso
        unfold insAt at h
        dsimp only at h
        rw [List.getElem?_eq_none (by omega)] at h
        cases h
    rw [e, h]
  | _ => cases h
@[simp] theorem insAt_app : insAt (S ++ T) (.obj (S.length + k)) = insAt T (.obj k) := by
  unfold insAt
  dsimp only
  rw [List.getElem?_append_right (by omega)]
  simp
@[simp] theorem insAt_app0 : insAt (S ++ T) (.obj S.length) = insAt T (.obj 0) := insAt_app S T 0
@[simp] theorem insAt_cons0 (c : String) (fs : List (Str × D)) : insAt (.ins c fs :: T) (.obj 0) = some (c, fs) := rfl
@[simp] theorem insAt_consS (o : DO) : insAt (o :: T) (.obj (k + 1)) = insAt T (.obj k) := rfl
@[simp] theorem seqAt_tup (xs : List D) : seqAt S (.tup xs) = some xs := rfl
@[simp] theorem seqAt_fl (xs : List D) : seqAt S (.fl xs) = some xs := rfl
@[simp] theorem seqAt_obj (n : Nat) : seqAt S (.obj n) = lstAt S n := rfl
end
end DL
set_option Elab.async false
set_option linter.all false
set_option maxRecDepth 100000
set_option maxHeartbeats 1000000
namespace DL
open PySem PySem.Spec PyProof.Rows L2
/-! ### a comprehension whose parts change nothing -/
theorem lcD_map {α : Type} {grd : Store → Bool} {tg : DG} {fe : DE} {ρ : DEnv} {a f : α → D} {S1 : Store} (hg : ∀ X, grd (S1 ++ [.lst X]) = true) : ∀ (xs : List α) (acc : List D), (∀ x ∈ xs, ∀ X, ∃ ρ1, tg (a x) ρ (S1 ++ [.lst X]) = .nx ρ1 (S1 ++ [.lst X]) ∧ fe ρ1 (S1 ++ [.lst X]) = .ok (f x) (S1 ++ [.lst X])) → acc.length + xs.length < 1000000 →
    lcD grd tg dYes fe S1.length ρ (xs.map a) (S1 ++ [.lst acc]) = .ok () (S1 ++ [.lst (acc ++ xs.map f)])
  | [], acc, h, hl => by simp only [List.map_nil, lcD_nil, hg, if_true, List.append_nil]
  | x :: xs, acc, h, hl => by
    obtain ⟨ρ1, h1, h2⟩ := h x List.mem_cons_self acc
    rw [List.length_cons] at hl
    have ih := lcD_map hg xs (acc ++ [f x]) (fun y hy => h y (List.mem_cons_of_mem _ hy)) (by rw [List.length_append, List.length_singleton]; omega)
    have h3 : lstAt (S1 ++ [.lst acc]) S1.length = some acc := by simp
    simp -implicitDefEqProofs only [List.map_cons, lcD_cons, hg, if_true, h1, lcG_nx, e_dYes, lcE_ok, h2]
    rw [outU_some h3 (by omega)]
    simp -implicitDefEqProofs only [set_app0, List.set_cons_zero]
    rw [ih, List.append_assoc, List.singleton_append]
theorem dLc_map {α : Type} {fi : DI} {tg : DG} {fe : DE} {vs : List Nat} {ρ : DEnv} {S S1 : Store} {grd : Store → Bool} (xs : List α) (a f : α → D) (hi : fi ρ S = .ok ⟨xs.map a, grd⟩ S1) (hg : ∀ X, grd (S1 ++ [.lst X]) = true)
    (h : ∀ x ∈ xs, ∀ X, ∃ ρ1, tg (a x) (wipeD ρ vs) (S1 ++ [.lst X]) = .nx ρ1 (S1 ++ [.lst X]) ∧ fe ρ1 (S1 ++ [.lst X]) = .ok (f x) (S1 ++ [.lst X])) (hl : xs.length < 1000000) :
    dLc fi tg dYes fe vs ρ S = .ok (.obj S1.length) (S1 ++ [.lst (xs.map f)]) := by
  rw [e_dLc, hi]
  simp only [Out.bind_ok]
  rw [lcD_map hg xs [] h (by rw [List.length_nil]; omega)]
  simp only [Out.bind_ok, List.nil_append]
/-! ### guards, what a comprehension puts out -/
@[simp] theorem grdL_iff {n : Nat} {xs : List D} {S : Store} : grdL n xs S = true ↔ lstAt S n = some xs := by
  constructor
  · exact grdL_ok
  · intro h
    unfold grdL
    rw [h]
    exact D.beqs_refl xs
def outO (n : Nat) (k : Store → Out Unit) (y : D) (S : Store) : Option (List D) → Out Unit
  | some acc => if acc.length < 1000000 then k (S.set n (.lst (acc ++ [y]))) else .bad
  | none => .bad
@[simp] theorem e_outU (n : Nat) (k : Store → Out Unit) (y : D) (S : Store) : outU n k y S = outO n k y S (lstAt S n) := by
  unfold outU outO
  cases lstAt S n <;> rfl
@[simp] theorem outO_some (n : Nat) (k : Store → Out Unit) (y : D) (S : Store) (acc : List D) : outO n k y S (some acc) = if acc.length < 1000000 then k (S.set n (.lst (acc ++ [y]))) else .bad := rfl
@[simp] theorem addD_tup (xs ys : List D) (S : Store) : addD (.tup xs) (.tup ys) S = if xs.length + ys.length ≤ 1000000 then some (.tup (xs ++ ys), S) else none := rfl
end DL
set_option Elab.async false
set_option linter.all false
set_option maxRecDepth 100000
set_option maxHeartbeats 1000000
namespace DL
open PySem PySem.Spec PyProof.Rows L2
/-! ### told, put at an index -/
theorem told_exn {rs : List String} {cs : List (String × Str)} {f : DE} {ρ : DEnv} {S S1 : Store} {c : String} {t : Str} (h : f ρ S = .exn ⟨c⟩ S1) (hc : c ∈ rs) (hp : pickD cs c = some t) : dTold rs cs f ρ S = .ok (.str t) S1 := by
  unfold dTold
  rw [h]
  dsimp only
  rw [if_pos hc, hp]
theorem told_ok {rs : List String} {cs : List (String × Str)} {f : DE} {ρ : DEnv} {S S1 : Store} {d : D} (h : f ρ S = .ok d S1) : dTold rs cs f ρ S = .ok d S1 := by
  unfold dTold
  rw [h]
def ixPut (d : D) (ρ : DEnv) (n : Nat) (k : Int) (S : Store) : Option (List D) → OutS
  | some xs => (match ixN xs.length k with
    | some j => .nx ρ (S.set n (.lst (xs.set j d)))
    | none => .bad)
  | none => .bad
@[simp] theorem e_gIx (fo fi : DE) (d : D) (ρ : DEnv) (S : Store) : gIx fo fi d ρ S = liftS (fo ρ S) ρ fun o S1 => liftS (fi ρ S1) ρ fun i S2 => match o, i with
  | .obj n, .int k => ixPut d ρ n k S2 (lstAt S2 n)
  | _, _ => .bad := by
  unfold gIx
  congr 1
@[simp] theorem ixPut_some (d : D) (ρ : DEnv) (n : Nat) (k : Int) (S : Store) (xs : List D) : ixPut d ρ n k S (some xs) = (match ixN xs.length k with
    | some j => .nx ρ (S.set n (.lst (xs.set j d)))
    | none => .bad) := rfl
@[simp] theorem e_ixO' (n : Nat) (k : Int) (S : Store) : ixD (.obj n) (.int k) S = ((lstAt S n).bind fun xs => (atI xs k).map fun d => (d, S)) := by
  unfold ixD
  simp only [seqAt_obj]
  cases lstAt S n <;> rfl
/-! ### what stays -/
structure Kp (n : Nat) (S S' : Store) : Prop where
  len : S.length ≤ S'.length
  at_ : ∀ i, i ≠ n → i < S.length → S'[i]? = S[i]?
theorem lt_of_lst {S : Store} {n : Nat} {xs : List D} (h : lstAt S n = some xs) : n < S.length := by
  by_cases z : n < S.length
  · exact z
  · unfold lstAt at h
    rw [List.getElem?_eq_none (by omega)] at h
    cases h
theorem lt_of_ins {S : Store} {n : Nat} {x : String × List (Str × D)} (h : insAt S (.obj n) = some x) : n < S.length := by
  by_cases z : n < S.length
  · exact z
  · unfold insAt at h
    dsimp only at h
    rw [List.getElem?_eq_none (by omega)] at h
    cases h
section
variable {n : Nat} {S S1 S2 T : Store}
theorem Kp.refl : Kp n S S := ⟨Nat.le_refl _, fun _ _ _ => rfl⟩
theorem Kp.trans (a : Kp n S S1) (b : Kp n S1 S2) : Kp n S S2 := ⟨Nat.le_trans a.len b.len, fun i h1 h2 => (b.at_ i h1 (Nat.lt_of_lt_of_le h2 a.len)).trans (a.at_ i h1 h2)⟩
theorem Kp.app : Kp n S (S ++ T) := ⟨by simp, fun i _ h => by rw [List.getElem?_append_left h]⟩
theorem Kp.set {o : DO} : Kp n S (S.set n o) := ⟨by simp, fun i h _ => by rw [List.getElem?_set_ne (Ne.symm h)]⟩
theorem Kp.lst (a : Kp n S S1) {i : Nat} {xs : List D} (hi : i ≠ n) (h : lstAt S i = some xs) : lstAt S1 i = some xs := by
  have := a.at_ i hi (lt_of_lst h)
  unfold lstAt at h ⊢
  rw [this]
  exact h
theorem Kp.ins (a : Kp n S S1) {i : Nat} {x : String × List (Str × D)} (hi : i ≠ n) (h : insAt S (.obj i) = some x) : insAt S1 (.obj i) = some x := by
  have := a.at_ i hi (lt_of_ins h)
  unfold insAt at h ⊢
  dsimp only at h ⊢
  rw [this]
  exact h
theorem lst_set {l acc : List D} (h : lstAt S n = some acc) : lstAt (S.set n (.lst l)) n = some l := by
  unfold lstAt
  rw [List.getElem?_set_self (lt_of_lst h)]
theorem ne_lst_ins {i : Nat} {xs : List D} {x : String × List (Str × D)} (h : lstAt S n = some xs) (q : insAt S (.obj i) = some x) : i ≠ n := by
  rintro rfl
  unfold insAt at q
  unfold lstAt at h
  dsimp only at q
  cases z : S[i]? with
  | none => rw [z] at h; cases h
  | some o => cases o with
    | lst xs => rw [z] at q; cases q
    | ins c fs => rw [z] at h; cases h
end
/-! ### dice -/
def DiceAt (S : Store) (n : Nat) : Prop := ∃ a b f : Int, lstAt S n = some [.int a, .int b, .int f]
theorem DiceAt.app {S T : Store} {n : Nat} (h : DiceAt S n) : DiceAt (S ++ T) n := by
  obtain ⟨a, b, f, h⟩ := h
  exact ⟨a, b, f, lstAt_keep _ _ h⟩
theorem DiceAt.kp {S S1 : Store} {n i : Nat} (h : DiceAt S i) (k : Kp n S S1) (hi : i ≠ n) : DiceAt S1 i := by
  obtain ⟨a, b, f, h⟩ := h
  exact ⟨a, b, f, k.lst hi h⟩
def rollF : DS :=
  (dSeq (dIfS (dOrT (dB (dOp eqD (dOp ixD (dVar 0) (dC (.int 2))) (dC (.int 2)))) (dAndT (dB (dOp eqD (dOp ixD (dVar 0) (dC (.int 2))) (dC (.int 1)))) (dB (dOp gtD (dOp ixD (dVar 0) (dC (.int 0))) (dC (.int 0))))))
  (dSeq (dAsg (dOp modD (dBlt intD (daCons (dOp ixD (dVar 0) (dC (.int 0))) daNil)) (dVar 1)) (gN 2))
  (dSeq (dAsg (dOp fdivD (dOp ixD (dVar 0) (dC (.int 0))) (dVar 1)) (gIx (dVar 0) (dC (.int 0))))
  (dRet (dVar 2))))
  dNext)
  (dSeq (dAsg (dC (.int 0)) (gIx (dVar 0) (dC (.int 2))))
  (dSeq (dAsg (dOp modD (dBlt intD (daCons (dOp addD (dOp addD (dOp mulD (dOp ixD (dVar 0) (dC (.int 0))) (dC (.int 48271))) (dOp mulD (dOp ixD (dVar 0) (dC (.int 1))) (dC (.int 69621)))) (dC (.int 11))) daNil)) (dC (.int 2147483647))) (gIx (dVar 0) (dC (.int 0))))
  (dSeq (dAsg (dOp addD (dOp ixD (dVar 0) (dC (.int 1))) (dC (.int 1))) (gIx (dVar 0) (dC (.int 1))))
  (dRet (dOp modD (dBlt intD (daCons (dOp addD (dOp fdivD (dOp ixD (dVar 0) (dC (.int 0))) (dC (.int 7))) (dOp ixD (dVar 0) (dC (.int 0)))) daNil)) (dVar 1)))))))
theorem mul_small {i j : Int} {S : Store} (h : j.natAbs < 18446744073709551616) : mulD (.int i) (.int j) S = some (.int (i * j), S) := if_pos (.inl (.inr h))
theorem fdiv_small {i j : Int} {S : Store} (h : 0 < j) (h2 : j.natAbs < 18446744073709551616) : fdivD (.int i) (.int j) S = some (.int (i / j), S) := by
  have b := log2_lt' (n := 64) h2 (by decide)
  exact if_pos ⟨h, by omega⟩
@[simp] theorem atI_two (xs : List D) : atI xs 2 = xs[2]? := atI_nat xs 2
@[simp] theorem atI_three (xs : List D) : atI xs 3 = xs[3]? := atI_nat xs 3
@[simp] theorem ixN_30 : ixN 3 0 = some 0 := rfl
@[simp] theorem ixN_31 : ixN 3 1 = some 1 := rfl
@[simp] theorem ixN_32 : ixN 3 2 = some 2 := rfl
theorem set_set {S : Store} {n : Nat} {a b : DO} : (S.set n a).set n b = S.set n b := List.set_set ..
theorem roll_ok {S : Store} {n : Nat} {k : Int} (h : DiceAt S n) (hk : 0 < k) (hk2 : k.natAbs < 18446744073709551616) : ∃ (v : Nat) (S' : Store), (v : Int) < k ∧ runD 3 rollF [.obj n, .int k] S = .ok (.int (v : Int)) S' ∧ Kp n S S' ∧ DiceAt S' n := by
  obtain ⟨a, b, f, h⟩ := h
  have h0 : ∀ (l : List D), lstAt (S.set n (.lst l)) n = some l := fun l => lst_set h
  by_cases c : f = 2 ∨ f = 1 ∧ 0 < a
  · refine ⟨(a % k).toNat, S.set n (.lst [.int (a / k), .int b, .int f]), ?_, ?_, Kp.set, ⟨_, _, _, h0 _⟩⟩
    · have := Int.emod_lt_of_pos a hk
      have := Int.emod_nonneg a (by omega : k ≠ 0)
      omega
    · have e : ((a % k).toNat : Int) = a % k := by have := Int.emod_nonneg a (by omega : k ≠ 0); omega
      rw [e]
      rcases c with c | ⟨c1, c2⟩
      · subst c
        simp -implicitDefEqProofs only [e_runD, rollF]
        simp -implicitDefEqProofs [startD, h, h0, modD_int hk, fdiv_small hk hk2]
      · subst c1
        simp -implicitDefEqProofs only [e_runD, rollF]
        simp -implicitDefEqProofs [startD, h, h0, modD_int hk, fdiv_small hk hk2, c2]
  · have c1 : ¬ f = 2 := fun z => c (.inl z)
    have s1 : (48271 : Int).natAbs < 18446744073709551616 := by decide
    have s2 : (69621 : Int).natAbs < 18446744073709551616 := by decide
    have s3 : (0 : Int) < 2147483647 := by decide
    have s4 : (0 : Int) < 7 := by decide
    have s5 : (7 : Int).natAbs < 18446744073709551616 := by decide
    generalize hx : (a * 48271 + b * 69621 + 11) % 2147483647 = x
    refine ⟨((x / 7 + x) % k).toNat, S.set n (.lst [.int x, .int (b + 1), .int 0]), ?_, ?_, Kp.set, ⟨_, _, _, h0 _⟩⟩
    · have := Int.emod_lt_of_pos (x / 7 + x) hk
      have := Int.emod_nonneg (x / 7 + x) (by omega : k ≠ 0)
      omega
    · have e : (((x / 7 + x) % k).toNat : Int) = (x / 7 + x) % k := by have := Int.emod_nonneg (x / 7 + x) (by omega : k ≠ 0); omega
      rw [e]
      by_cases c2 : f = 1
      · have c3 : ¬ 0 < a := fun z => c (.inr ⟨c2, z⟩)
        subst c2
        simp -implicitDefEqProofs only [e_runD, rollF]
        simp -implicitDefEqProofs [startD, h, h0, modD_int hk, fdiv_small s4 s5, mul_small s1, mul_small s2, modD_int s3, hx, c3, set_set]
      · simp -implicitDefEqProofs only [e_runD, rollF]
        simp -implicitDefEqProofs [startD, h, h0, modD_int hk, fdiv_small s4 s5, mul_small s1, mul_small s2, modD_int s3, hx, c1, c2, set_set]
end DL
set_option Elab.async false
set_option linter.all false
set_option maxRecDepth 100000
set_option maxHeartbeats 1000000
namespace DL
open PySem PySem.Spec PyProof.Rows L2
/-! ### a list of whole numbers, told empty or not -/
theorem toPs_ints : ∀ (cs : List Int), D.toPs (cs.map D.int) = some (cs.map PyData.int)
  | [] => rfl
  | c :: cs => by
    rw [List.map_cons, List.map_cons]
    unfold D.toPs
    rw [toPs_ints cs]
    rfl
theorem lay_ints : ∀ (cs : List Int), PyData.canLayAll0 (cs.map PyData.int) = true
  | [] => rfl
  | c :: cs => by rw [List.map_cons, PyData.canLayAll0, lay_ints cs]; rfl
theorem depth_ints : ∀ (cs : List Int), PyData.depthAll (cs.map PyData.int) = 0
  | [] => rfl
  | c :: cs => by rw [List.map_cons, PyData.depthAll, depth_ints cs]; rfl
theorem shaped_ints (cs : List Int) : SeqAt.shaped (.list (cs.map PyData.int)) = true := by
  unfold SeqAt.shaped
  rw [PyData.canLay0, lay_ints, PyData.depth, depth_ints]
  rfl
theorem eqD_nil {S : Store} {n k : Nat} {cs : List Int} (h : lstAt S n = some (cs.map D.int)) (h2 : lstAt S k = some []) : eqD (.obj n) (.obj k) S = some (.bl (decide (cs = [])), S) := by
  unfold eqD D.toPS
  dsimp only
  rw [h, h2]
  dsimp only
  rw [toPs_ints]
  show (if SeqAt.shaped (.list (cs.map PyData.int)) = true ∧ SeqAt.shaped (.list []) = true then some (D.bl (PyData.eqv (.list (cs.map PyData.int)) (.list [])), S) else none) = _
  rw [if_pos ⟨shaped_ints cs, shaped_ints []⟩]
  cases cs <;> rfl
def diceF : DS :=
  (dSeq (dIfS (dB (dChain ltD ltD (dOp subD (dC (.int 0)) (dC (.int 10))) (dVar 0) (dC (.int 10))))
  (dRet (dLst (daCons (dBlt absD (daCons (dVar 0) daNil)) (daCons (dC (.int 0)) (daCons (dC (.int 2)) daNil)))))
  dNext)
  (dRet (dLst (daCons (dVar 0) (daCons (dOp addD (dC (.int 1)) (dOp modD (dBlt intD (daCons (dVar 0) daNil)) (dC (.int 1009)))) (daCons (dBlt intD (daCons (dOp geD (dVar 0) (dOp powD (dC (.int 10)) (dC (.int 18)))) daNil)) daNil))))))
theorem dice_ok (c : Int) (S : Store) : ∃ x y z : Int, runD 1 diceF [.int c] S = .ok (.obj S.length) (S ++ [.lst [.int x, .int y, .int z]]) := by
  by_cases h : -10 < c ∧ c < 10
  · refine ⟨c.natAbs, 0, 2, ?_⟩
    simp -implicitDefEqProofs [diceF, startD, dChain, h.1, h.2]
  · have hp : powD (.int 10) (.int 18) S = some (.int (10 ^ 18), S) := rfl
    have hm : modD (.int c) (.int 1009) S = some (.int (c % 1009), S) := modD_int (by decide)
    refine ⟨c, 1 + c % 1009, if 10 ^ 18 ≤ c then 1 else 0, ?_⟩
    by_cases h1 : -10 < c
    · have h2 : ¬ c < 10 := fun z => h ⟨h1, z⟩
      simp -implicitDefEqProofs only [diceF, e_runD]
      simp -implicitDefEqProofs [startD, dChain, h1, h2, hp, hm]
    · simp -implicitDefEqProofs only [diceF, e_runD]
      simp -implicitDefEqProofs [startD, dChain, h1, hp, hm]
def DiceO : DO → Prop
  | .lst [.int _, .int _, .int _] => True
  | _ => False
theorem DiceO.at {S : Store} {n : Nat} {o : DO} (h : DiceO o) (e : S[n]? = some o) : DiceAt S n := by
  unfold DiceO at h
  split at h
  · rename_i a b c
    exact ⟨a, b, c, by unfold lstAt; rw [e]⟩
  · exact h.elim
def roundsF (M : DF) : DS :=
  (dSeq (dAsg (dSl (dVar 0) dpNone (dpSome (dVar 1))) (gN 2))
  (dSeq (dIfS (dB (dOp eqD (dVar 2) (dLst daNil)))
  (dAsg (dLst (daCons (dC (.int 0)) daNil)) (gN 2))
  dNext)
  (dRet (dLc (diSeq (dVar 2)) (gN 3) dYes (dCall 1 M (daCons (dVar 3) daNil)) [3]))))
def objsFrom (k n : Nat) : List D := (List.range' k n).map D.obj
theorem objs_succ (k n : Nat) : objsFrom k (n + 1) = .obj k :: objsFrom (k + 1) n := by simp [objsFrom, List.range'_succ]
theorem rounds_lc {S1 : Store} {q : Nat} {cs0 : List Int} {o0 o1 o2 o3 : Option D} (hq : lstAt S1 q = some (cs0.map D.int)) : ∀ (cs : List Int) (acc : List D) (ds : List DO), acc.length + cs.length < 1000000 → ∃ es : List DO, es.length = cs.length ∧ (∀ e ∈ es, DiceO e) ∧
    lcD (grdL q (cs0.map D.int)) (gN 3) dYes (dCall 1 (runD 1 diceF) (daCons (dVar 3) daNil)) S1.length [o0, o1, o2, o3] (cs.map D.int) (S1 ++ .lst acc :: ds) = .ok () (S1 ++ .lst (acc ++ objsFrom (S1.length + 1 + ds.length) cs.length) :: (ds ++ es)) := by
  intro cs
  induction cs with
  | nil =>
    intro acc ds hl
    refine ⟨[], rfl, (fun _ h => nomatch h), ?_⟩
    simp [objsFrom, lstAt_keep _ _ hq]
  | cons c cs ih =>
    intro acc ds hl
    rw [List.length_cons] at hl
    obtain ⟨x, y, z, e⟩ := dice_ok c (S1 ++ .lst acc :: ds)
    obtain ⟨es, h1, h2, h3⟩ := ih (acc ++ [.obj (S1.length + 1 + ds.length)]) (ds ++ [.lst [.int x, .int y, .int z]]) (by rw [List.length_append, List.length_singleton]; omega)
    refine ⟨.lst [.int x, .int y, .int z] :: es, by simp [h1], ?_, ?_⟩
    · intro e he
      rcases List.mem_cons.mp he with rfl | he
      · trivial
      · exact h2 e he
    · have el : (S1 ++ .lst acc :: ds).length = S1.length + 1 + ds.length := by simp; omega
      rw [el] at e
      have hl2 : acc.length < 1000000 := by omega
      have hg : lstAt (S1 ++ .lst acc :: ds) q = some (cs0.map D.int) := lstAt_keep _ _ hq
      rw [List.map_cons, lcD_cons, if_pos (grdL_iff.mpr hg)]
      simp -implicitDefEqProofs only [e_gN, lcG_nx, e_dYes, lcE_ok, e_dCall, e_daCons, e_dVar, e_daNil]
      simp -implicitDefEqProofs [-e_runD, e, hl2]
      rw [show S1 ++ DO.lst (acc ++ [D.obj (S1.length + 1 + ds.length)]) :: (ds ++ [DO.lst [D.int x, D.int y, D.int z]]) = S1 ++ DO.lst (acc ++ [D.obj (S1.length + 1 + ds.length)]) :: (ds ++ [DO.lst [D.int x, D.int y, D.int z]]) from rfl, h3]
      simp [objs_succ, Nat.add_assoc]
theorem rounds_ok {ns : List Int} {d : D} {S : Store} (hs : ScriptAt ns d S) (k : Nat) (hk : 1 ≤ k) (hk2 : k ≤ 1000) : ∃ (j n : Nat) (S1 : Store) (es : List DO), 1 ≤ n ∧ n ≤ k ∧ es.length = n ∧ S1.length = j ∧ (∀ e ∈ es, DiceO e) ∧ runD 4 (roundsF (runD 1 diceF)) [d, .int (k : Int)] S = .ok (.obj j) (S1 ++ .lst (objsFrom (j + 1) n) :: es) := by
  have cut : ∀ xs : List D, cutD xs none (some (k : Int)) = xs.take k := by
    intro xs
    unfold cutD
    rw [HT.sIx_nat, HT.sIx_none]
    simp
  have sl : sliceD d none (some (k : Int)) S = some (.obj S.length, S ++ [.lst ((ns.take k).map D.int)]) := by
    rcases hs with ⟨rfl, rfl⟩ | ⟨rfl, rfl⟩
    · unfold sliceD
      dsimp only
      rw [cut, ← List.map_take]
      rfl
    · unfold sliceD
      dsimp only
      rw [show lstAt [DO.lst (ns.map D.int)] 0 = some (ns.map D.int) from rfl, Option.map_some, cut, ← List.map_take]
      rfl
  have e1 := eqD_nil (S := S ++ [.lst ((ns.take k).map D.int), .lst []]) (n := S.length) (k := S.length + 1) (cs := ns.take k) (by simp) (by simp)
  by_cases z : ns.take k = []
  · obtain ⟨es, h1, h2, h3⟩ := rounds_lc (S1 := S ++ [.lst ((ns.take k).map D.int), .lst [], .lst [.int 0]]) (q := S.length + 2) (cs0 := [0]) (o0 := some d) (o1 := some (.int (k : Int))) (o2 := some (.obj (S.length + 2))) (o3 := none) (by simp) [0] [] [] (by simp)
    refine ⟨S.length + 3, 1, S ++ [.lst ((ns.take k).map D.int), .lst [], .lst [.int 0]], es, by omega, hk, h1, by simp, h2, ?_⟩
    simp -implicitDefEqProofs only [roundsF, e_runD, startD]
    rw [z] at e1 sl h3 ⊢
    simp at e1 sl
    simp [-e_runD] at h3
    simp -implicitDefEqProofs [-e_runD, sl, e1, h3]
  · obtain ⟨es, h1, h2, h3⟩ := rounds_lc (S1 := S ++ [.lst ((ns.take k).map D.int), .lst []]) (q := S.length) (cs0 := ns.take k) (o0 := some d) (o1 := some (.int (k : Int))) (o2 := some (.obj S.length)) (o3 := none) (by simp) (ns.take k) [] [] (by have := List.length_take_le k ns; simp; omega)
    refine ⟨S.length + 2, (ns.take k).length, S ++ [.lst ((ns.take k).map D.int), .lst []], es, ?_, List.length_take_le k ns, h1, by simp, h2, ?_⟩
    · have := List.length_pos_iff.mpr z
      omega
    · simp -implicitDefEqProofs only [roundsF, e_runD, startD]
      generalize ns.take k = cs at *
      simp [z] at e1
      simp [-e_runD] at h3
      simp -implicitDefEqProofs [-e_runD, sl, e1, h3, z]
end DL
set_option Elab.async false
set_option linter.all false
set_option maxRecDepth 100000
set_option maxHeartbeats 1000000
namespace DL
open PySem PySem.Spec PyProof.Rows L2
theorem rounds_loop {body : DS} {all : List D} {j i N : Nat} (hb : ∀ (ρ : DEnv) (S : Store) (k : Nat), ρ.length = N → DiceAt S k → ∃ ρ' S', ρ'.length = N ∧ body (ρ.set i (some (.obj k))) S = .nx ρ' S' ∧ Kp k S S' ∧ DiceAt S' k) :
    ∀ (m k : Nat) (ρ : DEnv) (S : Store), ρ.length = N → lstAt S j = some all → j < k → (∀ x, k ≤ x → x < k + m → DiceAt S x) → ∃ ρ' S', ρ'.length = N ∧ forD (grdL j all) (gN i) body (objsFrom k m) ρ S = .nx ρ' S' := by
  intro m
  induction m with
  | zero =>
    intro k ρ S hN hj hk hd
    exact ⟨ρ, S, hN, by simp [objsFrom, hj]⟩
  | succ m ih =>
    intro k ρ S hN hj hk hd
    obtain ⟨ρ', S', h1, h2, h3, h4⟩ := hb ρ S k hN (hd k (Nat.le_refl _) (by omega))
    obtain ⟨ρ2, S2, q1, q2⟩ := ih (k + 1) ρ' S' h1 (h3.lst (by omega) hj) (by omega) (fun x hx hx2 => (hd x (by omega) (by omega)).kp h3 (by omega))
    refine ⟨ρ2, S2, q1, ?_⟩
    rw [objs_succ, forD_cons, if_pos (grdL_iff.mpr hj)]
    simp -implicitDefEqProofs only [e_gN, asgS_nx, seqS_nx, h2, forK_nx]
    exact q2
theorem law_rounds {body : DS} {N : Nat} {k : Nat} (hN : 2 ≤ N) (hk : 1 ≤ k) (hk2 : k ≤ 1000) (hb : ∀ (ρ : DEnv) (S : Store) (n : Nat), ρ.length = N → DiceAt S n → ∃ ρ' S', ρ'.length = N ∧ body (ρ.set 1 (some (.obj n))) S = .nx ρ' S' ∧ Kp n S S' ∧ DiceAt S' n)
    {ns : List Int} {d : D} {S : Store} (hs : ScriptAt ns d S) :
    ∃ S2, runD N (dSeq (dFor (diSeq (dCall 2 (runD 4 (roundsF (runD 1 diceF))) (daCons (dVar 0) (daCons (dC (.int (k : Int))) daNil)))) (gN 1) body) (dRet (dC (.bl true)))) [d] S = .ok (.bl true) S2 := by
  obtain ⟨j, n, S1, es, h1, h2, h3, h4, h5, h6⟩ := rounds_ok hs k hk hk2
  have hl : lstAt (S1 ++ .lst (objsFrom (j + 1) n) :: es) j = some (objsFrom (j + 1) n) := by rw [← h4, lstAt_app0]; rfl
  obtain ⟨ρ', S', q1, q2⟩ := rounds_loop (all := objsFrom (j + 1) n) (j := j) hb n (j + 1) (startD N [d]) (S1 ++ .lst (objsFrom (j + 1) n) :: es) (by simp [startD]; omega) hl (by omega) (fun x hx hx2 => by
    have e : (S1 ++ .lst (objsFrom (j + 1) n) :: es)[x]? = es[x - (j + 1)]? := by
      rw [List.getElem?_append_right (by omega), h4]
      rw [show x - j = (x - (j + 1)) + 1 from by omega, List.getElem?_cons_succ]
    have hx3 : x - (j + 1) < es.length := by omega
    rw [List.getElem?_eq_getElem hx3] at e
    exact DiceO.at (h5 _ (List.getElem_mem hx3)) e)
  refine ⟨S', ?_⟩
  have e0 : (startD N [d])[0]? = some (some d) := by
    unfold startD
    simp
  rw [e_runD, e_dSeq, e_dFor, e_diSeq, e_dCall, e_daCons, e_dVar, e0]
  simp -implicitDefEqProofs only [optV_some, Out.bind_ok, e_daCons, e_dC, e_daNil, List.length_cons, List.length_nil, if_true, Nat.reduceAdd, h6, srcOf_obj, hl, Option.map_some, optO_some, liftS_ok, q2, seqS_nx, e_dRet, finS_rt]
end DL
set_option Elab.async false
set_option linter.all false
set_option maxRecDepth 100000
set_option maxHeartbeats 1000000
namespace DL
open PySem PySem.Spec PyProof.Rows L2
/-! ### comprehensions whose parts roll dice and make things -/
def All2 {α β : Type} (P : α → β → Prop) : List α → List β → Prop
  | [], [] => True
  | a :: as, b :: bs => P a b ∧ All2 P as bs
  | _, _ => False
theorem Kp.set_far {n q : Nat} {S0 S : Store} {o : DO} (k : Kp n S0 S) (hq : S0.length ≤ q) : Kp n S0 (S.set q o) :=
  ⟨by simpa using k.len, fun i h1 h2 => by rw [List.getElem?_set_ne (by omega)]; exact k.at_ i h1 h2⟩
theorem DiceAt.set_far {n q : Nat} {S : Store} {o : DO} (h : DiceAt S n) (hq : n ≠ q) : DiceAt (S.set q o) n := by
  obtain ⟨a, b, f, h⟩ := h
  refine ⟨a, b, f, ?_⟩
  unfold lstAt at h ⊢
  rw [List.getElem?_set_ne (Ne.symm hq)]
  exact h
theorem lc_inv {n q : Nat} {S0 : Store} {grd : Store → Bool} {tg : DG} {fe : DE} {ρ : DEnv} {P : D → D → Prop} (hq : S0.length ≤ q) (hn : n < S0.length) (hg : ∀ S, Kp n S0 S → grd S = true) :
    ∀ (ds : List D) (acc : List D) (S : Store), (∀ d ∈ ds, ∀ S, Kp n S0 S → DiceAt S n → ∃ ρ1 y S', tg d ρ S = .nx ρ1 S ∧ fe ρ1 S = .ok y S' ∧ P d y ∧ Kp n S S' ∧ DiceAt S' n) → Kp n S0 S → DiceAt S n → lstAt S q = some acc → acc.length + ds.length < 1000000 →
    ∃ ys S', lcD grd tg dYes fe q ρ ds S = .ok () S' ∧ All2 P ds ys ∧ lstAt S' q = some (acc ++ ys) ∧ Kp n S0 S' ∧ DiceAt S' n := by
  intro ds
  induction ds with
  | nil =>
    intro acc S st k d l hl
    refine ⟨[], S, ?_, trivial, by simpa using l, k, d⟩
    rw [lcD_nil, if_pos (hg S k)]
  | cons x ds ih =>
    intro acc S st k d l hl
    rw [List.length_cons] at hl
    obtain ⟨ρ1, y, S1, e1, e2, p, k1, d1⟩ := st x List.mem_cons_self S k d
    have l1 : lstAt S1 q = some acc := k1.lst (by omega) l
    have k2 : Kp n S0 (S1.set q (.lst (acc ++ [y]))) := (k.trans k1).set_far hq
    have d2 : DiceAt (S1.set q (.lst (acc ++ [y]))) n := d1.set_far (by omega)
    obtain ⟨ys, S', q1, q2, q3, q4, q5⟩ := ih (acc ++ [y]) _ (fun z hz => st z (List.mem_cons_of_mem _ hz)) k2 d2 (lst_set l1) (by rw [List.length_append, List.length_singleton]; omega)
    refine ⟨y :: ys, S', ?_, ⟨p, q2⟩, by rw [q3, List.append_assoc, List.singleton_append], q4, q5⟩
    rw [lcD_cons, if_pos (hg S k)]
    simp -implicitDefEqProofs only [e1, lcG_nx, e_dYes, lcE_ok, if_true, e2]
    rw [outU_some l1 (by omega)]
    exact q1
theorem dLc_inv {n : Nat} {S S0 : Store} {grd : Store → Bool} {fi : DI} {tg : DG} {fe : DE} {vs : List Nat} {ρ : DEnv} {ds : List D} {P : D → D → Prop} (hi : fi ρ S = .ok ⟨ds, grd⟩ S0) (hg : ∀ S, Kp n S0 S → grd S = true) (hd : DiceAt S0 n) (hl : ds.length < 1000000)
    (st : ∀ d ∈ ds, ∀ S, Kp n S0 S → DiceAt S n → ∃ ρ1 y S', tg d (wipeD ρ vs) S = .nx ρ1 S ∧ fe ρ1 S = .ok y S' ∧ P d y ∧ Kp n S S' ∧ DiceAt S' n) :
    ∃ ys S', dLc fi tg dYes fe vs ρ S = .ok (.obj S0.length) S' ∧ All2 P ds ys ∧ lstAt S' S0.length = some ys ∧ Kp n S0 S' ∧ DiceAt S' n := by
  obtain ⟨a, b, f, hd'⟩ := hd
  obtain ⟨ys, S', q1, q2, q3, q4, q5⟩ := lc_inv (Nat.le_refl S0.length) (lt_of_lst hd') hg ds [] (S0 ++ [.lst []]) st Kp.app (DiceAt.app ⟨a, b, f, hd'⟩) (by simp) (by simpa using hl)
  refine ⟨ys, S', ?_, q2, by simpa using q3, q4, q5⟩
  rw [e_dLc, hi]
  simp only [Out.bind_ok]
  rw [q1]
  rfl
end DL
set_option Elab.async false
set_option linter.all false
set_option maxRecDepth 100000
set_option maxHeartbeats 1000000
/-! DLE8: the denotations of DN5..DN9, evaluated by simp. -/
namespace DL
open PySem PySem.Spec PyProof.Rows L2
section
variable {ρ : DEnv} {S : Store} {fi : DI} {tg : DG} {tt : DT} {fe fo fa fb : DE} {vs : List Nat}
@[simp] theorem e_dSumX : dSumX fi tg tt fe vs ρ S = (fi ρ S).bind fun src S1 => (sumL src.grd tg tt fe (wipeD ρ vs) src.items 0 S1).bind fun b S2 => .ok (.int b) S2 := rfl
@[simp] theorem e_dAnyX : dAnyX fi tg tt fe vs ρ S = (fi ρ S).bind fun src S1 => (anyL true src.grd tg tt fe (wipeD ρ vs) src.items S1).bind fun b S2 => .ok (.bl b) S2 := rfl
@[simp] theorem e_dAllX : dAllX fi tg tt fe vs ρ S = (fi ρ S).bind fun src S1 => (anyL false src.grd tg tt fe (wipeD ρ vs) src.items S1).bind fun b S2 => .ok (.bl b) S2 := rfl
@[simp] theorem sumL_nil {grd : Store → Bool} {acc : Int} : sumL grd tg tt fe ρ [] acc S = if grd S = true then .ok acc S else .bad := rfl
@[simp] theorem anyL_nil {stop : Bool} {grd : Store → Bool} : anyL stop grd tg tt fe ρ [] S = if grd S = true then .ok (!stop) S else .bad := rfl
def sumE (o : Out D) (k : Int → Store → Out Int) : Out Int := match o with
  | .ok (.int v) S => k v S
  | _ => .bad
@[simp] theorem sumE_int (v : Int) (k : Int → Store → Out Int) : sumE (.ok (.int v) S) k = k v S := rfl
def anyE (o : Out D) (k : Bool → Store → Out Bool) : Out Bool := match o with
  | .ok (.bl v) S => k v S
  | _ => .bad
@[simp] theorem anyE_bl (v : Bool) (k : Bool → Store → Out Bool) : anyE (.ok (.bl v) S) k = k v S := rfl
@[simp] theorem sumL_cons {grd : Store → Bool} {acc : Int} (d : D) (ds : List D) : sumL grd tg tt fe ρ (d :: ds) acc S = if grd S = true then lcG (tg d ρ S) (fun ρ1 S1 => lcE (tt ρ1 S1) fun b S2 => if b = true then sumE (fe ρ1 S2) fun v S3 => sumL grd tg tt fe ρ ds (acc + v) S3 else sumL grd tg tt fe ρ ds acc S2) else .bad := by
  rw [sumL]
  split
  · unfold lcG
    cases tg d ρ S with
    | nx ρ1 S1 =>
      dsimp only
      unfold lcE
      cases tt ρ1 S1 with
      | ok b S2 =>
        cases b with
        | true =>
          dsimp only
          rw [if_pos rfl]
          unfold sumE
          cases fe ρ1 S2 with
          | ok y S3 => cases y <;> rfl
          | exn _ _ => rfl
          | bad => rfl
        | false => rfl
      | exn _ _ => rfl
      | bad => rfl
    | _ => rfl
  · rfl
@[simp] theorem anyL_cons {stop : Bool} {grd : Store → Bool} (d : D) (ds : List D) : anyL stop grd tg tt fe ρ (d :: ds) S = if grd S = true then lcG (tg d ρ S) (fun ρ1 S1 => lcE (tt ρ1 S1) fun b S2 => if b = true then anyE (fe ρ1 S2) fun v S3 => if v = stop then .ok stop S3 else anyL stop grd tg tt fe ρ ds S3 else anyL stop grd tg tt fe ρ ds S2) else .bad := by
  rw [anyL]
  split
  · unfold lcG
    cases tg d ρ S with
    | nx ρ1 S1 =>
      dsimp only
      unfold lcE
      cases tt ρ1 S1 with
      | ok b S2 =>
        cases b with
        | true =>
          dsimp only
          rw [if_pos rfl]
          unfold anyE
          cases fe ρ1 S2 with
          | ok y S3 => cases y <;> rfl
          | exn _ _ => rfl
          | bad => rfl
        | false => rfl
      | exn _ _ => rfl
      | bad => rfl
    | _ => rfl
  · rfl
/-- a sum whose parts change nothing -/
theorem sumL_map {α : Type} {grd : Store → Bool} {a : α → D} {f : α → Int} (hg : grd S = true) : ∀ (xs : List α) (acc : Int), (∀ x ∈ xs, ∃ ρ1, tg (a x) ρ S = .nx ρ1 S ∧ tt ρ1 S = .ok true S ∧ fe ρ1 S = .ok (.int (f x)) S) → sumL grd tg tt fe ρ (xs.map a) acc S = .ok (acc + (xs.map f).sum) S
  | [], acc, h => by simp [hg]
  | x :: xs, acc, h => by
    obtain ⟨ρ1, h1, h2, h3⟩ := h x List.mem_cons_self
    have ih := sumL_map hg xs (acc + f x) fun y hy => h y (List.mem_cons_of_mem _ hy)
    rw [List.map_cons, sumL_cons, if_pos hg, h1, lcG_nx, h2, lcE_ok, if_pos rfl, h3, sumE_int, ih, List.map_cons, List.sum_cons, Int.add_assoc]
/-- none of the items stops -/
theorem anyL_none {α : Type} {stop : Bool} {grd : Store → Bool} {a : α → D} (hg : grd S = true) : ∀ (xs : List α), (∀ x ∈ xs, ∃ ρ1, tg (a x) ρ S = .nx ρ1 S ∧ tt ρ1 S = .ok true S ∧ fe ρ1 S = .ok (.bl (!stop)) S) → anyL stop grd tg tt fe ρ (xs.map a) S = .ok (!stop) S
  | [], h => by simp [hg]
  | x :: xs, h => by
    obtain ⟨ρ1, h1, h2, h3⟩ := h x List.mem_cons_self
    have ih := anyL_none hg xs fun y hy => h y (List.mem_cons_of_mem _ hy)
    rw [List.map_cons, anyL_cons, if_pos hg, h1, lcG_nx, h2, lcE_ok, if_pos rfl, h3, anyE_bl, if_neg (by cases stop <;> decide), ih]
/-! ### methods of lists -/
def lm1C (n : Nat) (S : Store) : Option (D × List D) → Out D
  | some (r, zs) => .ok r (S.set n (.lst zs))
  | none => .bad
@[simp] theorem lm1C_some (n : Nat) (r : D) (zs : List D) : lm1C n S (some (r, zs)) = .ok r (S.set n (.lst zs)) := rfl
def lm1B (g : Store → List D → D → Option (D × List D)) (n : Nat) (y : D) (S : Store) : Option (List D) → Out D
  | some xs => lm1C n S (g S xs y)
  | none => .bad
@[simp] theorem lm1B_some (g : Store → List D → D → Option (D × List D)) (n : Nat) (y : D) (xs : List D) : lm1B g n y S (some xs) = lm1C n S (g S xs y) := rfl
def lm1A (g : Store → List D → D → Option (D × List D)) (fe : DE) (ρ : DEnv) (n : Nat) (S : Store) : Option (List D) → Out D
  | some _ => (fe ρ S).bind fun y S2 => lm1B g n y S2 (lstAt S2 n)
  | none => .bad
@[simp] theorem lm1A_some (g : Store → List D → D → Option (D × List D)) (n : Nat) (xs : List D) : lm1A g fe ρ n S (some xs) = (fe ρ S).bind fun y S2 => lm1B g n y S2 (lstAt S2 n) := rfl
def lm1O (g : Store → List D → D → Option (D × List D)) (fe : DE) (ρ : DEnv) (S : Store) : D → Out D
  | .obj n => lm1A g fe ρ n S (lstAt S n)
  | _ => .bad
@[simp] theorem lm1O_obj (g : Store → List D → D → Option (D × List D)) (n : Nat) : lm1O g fe ρ S (.obj n) = lm1A g fe ρ n S (lstAt S n) := rfl
@[simp] theorem e_dLM1 (g : Store → List D → D → Option (D × List D)) : dLM1 g fo fe ρ S = (fo ρ S).bind fun o S1 => lm1O g fe ρ S1 o := by
  unfold dLM1
  congr 1
def lm0A (g : List D → Option (D × List D)) (n : Nat) (S : Store) : Option (List D) → Out D
  | some xs => lm1C n S (g xs)
  | none => .bad
@[simp] theorem lm0A_some (g : List D → Option (D × List D)) (n : Nat) (xs : List D) : lm0A g n S (some xs) = lm1C n S (g xs) := rfl
def lm0O (g : List D → Option (D × List D)) (S : Store) : D → Out D
  | .obj n => lm0A g n S (lstAt S n)
  | _ => .bad
@[simp] theorem lm0O_obj (g : List D → Option (D × List D)) (n : Nat) : lm0O g S (.obj n) = lm0A g n S (lstAt S n) := rfl
@[simp] theorem e_dLM0 (g : List D → Option (D × List D)) : dLM0 g fo ρ S = (fo ρ S).bind fun o S1 => lm0O g S1 o := by
  unfold dLM0
  congr 1
/-! ### sums and the like of tuples -/
@[simp] theorem intsOf_map : ∀ (is : List Int), intsOf (is.map D.int) = some is
  | [] => rfl
  | i :: is => by rw [List.map_cons, intsOf, intsOf_map is]; rfl
@[simp] theorem intsOf_nil : intsOf [] = some [] := rfl
@[simp] theorem intsOf_cons (i : Int) (ds : List D) : intsOf (.int i :: ds) = (intsOf ds).map (i :: ·) := rfl
@[simp] theorem lstOf_obj (n : Nat) : lstOf S (.obj n) = lstAt S n := rfl
@[simp] theorem sumLT_tup (xs : List D) : sumLT [.tup xs] S = (intsOf xs).map fun ns => (.int ns.sum, S) := rfl
@[simp] theorem sumLT_obj (n : Nat) : sumLT [.obj n] S = ((lstAt S n).bind intsOf).map fun ns => (.int ns.sum, S) := rfl
@[simp] theorem maxT_tup (xs : List D) : maxT [.tup xs] S = ((intsOf xs).bind maxI).map fun i => (.int i, S) := rfl
@[simp] theorem maxT_obj (n : Nat) : maxT [.obj n] S = (((lstAt S n).bind intsOf).bind maxI).map fun i => (.int i, S) := rfl
@[simp] theorem minT_tup (xs : List D) : minT [.tup xs] S = ((intsOf xs).bind minI).map fun i => (.int i, S) := rfl
@[simp] theorem maxI_cons (i : Int) (is : List Int) : maxI (i :: is) = some (is.foldl max i) := rfl
@[simp] theorem minI_cons (i : Int) (is : List Int) : minI (i :: is) = some (is.foldl min i) := rfl
/-! ### zip -/
@[simp] theorem e_diZip : diZip fa fb ρ S = (fa ρ S).bind fun d S1 => (fb ρ S1).bind fun e S2 => match seqAt S2 d, seqAt S2 e with
  | some xs, some ys => .ok ⟨zipD xs ys, fun S => grdQ d xs S && grdQ e ys S⟩ S2
  | _, _ => .bad := rfl
@[simp] theorem grdQ_tup (xs ys : List D) : grdQ (.tup xs) ys S = true := rfl
@[simp] theorem grdQ_obj (n : Nat) (ys : List D) : grdQ (.obj n) ys = grdL n ys := rfl
@[simp] theorem zipD_cons (x y : D) (xs ys : List D) : zipD (x :: xs) (y :: ys) = .tup [x, y] :: zipD xs ys := rfl
@[simp] theorem zipD_nil (ys : List D) : zipD [] ys = [] := by cases ys <;> rfl
@[simp] theorem rng_6 : rngD 0 1 6 = [.int 0, .int 1, .int 2, .int 3, .int 4, .int 5] := rfl
@[simp] theorem rng_7 : rngD 0 1 7 = [.int 0, .int 1, .int 2, .int 3, .int 4, .int 5, .int 6] := rfl
end
end DL
set_option Elab.async false
set_option linter.all false
set_option maxRecDepth 100000
set_option maxHeartbeats 1000000
/-! DLE9: more of the denotations, evaluated by simp (from the laws k13, k21: law-independent). -/
namespace DL
open PySem PySem.Spec PyProof.Rows L2
section
variable {ρ : DEnv} {S : Store}
def andV (x : D) (S : Store) (k : Store → Out D) : Out D := match x with
  | .bl true => k S
  | .bl false => .ok (.bl false) S
  | _ => .bad
def orV (x : D) (S : Store) (k : Store → Out D) : Out D := match x with
  | .bl true => .ok (.bl true) S
  | .bl false => k S
  | _ => .bad
@[simp] theorem andV_bl (b : Bool) (S : Store) (k : Store → Out D) : andV (.bl b) S k = if b = true then k S else .ok (.bl false) S := by cases b <;> rfl
@[simp] theorem orV_bl (b : Bool) (S : Store) (k : Store → Out D) : orV (.bl b) S k = if b = true then .ok (.bl true) S else k S := by cases b <;> rfl
@[simp] theorem e_dAndV (fa fb : DE) (ρ : DEnv) (S : Store) : dAndV fa fb ρ S = (fa ρ S).bind fun x S1 => andV x S1 (fb ρ) := rfl
@[simp] theorem e_dOrV (fa fb : DE) (ρ : DEnv) (S : Store) : dOrV fa fb ρ S = (fa ρ S).bind fun x S1 => orV x S1 (fb ρ) := rfl
@[simp] theorem e_dChain (g g' : D2) (fa fb fc : DE) (ρ : DEnv) (S : Store) : dChain g g' fa fb fc ρ S = (fa ρ S).bind fun x S1 => (fb ρ S1).bind fun y S2 => (optO (g x y S2)).bind fun r S3 => andV r S3 fun S3 => (fc ρ S3).bind fun z S4 => optO (g' y z S4) := by
  unfold dChain andV
  congr 1
@[simp] theorem iaddD_int (i j : Int) (S : Store) : iaddD (.int i) (.int j) S = some (.int (i + j), S) := rfl
@[simp] theorem isubD_int (i j : Int) (S : Store) : isubD (.int i) (.int j) S = some (.int (i - j), S) := rfl
@[simp] theorem e_dBrk (ρ : DEnv) (S : Store) : dBrk ρ S = .bk ρ S := rfl
@[simp] theorem e_dCnt (ρ : DEnv) (S : Store) : dCnt ρ S = .ct ρ S := rfl
/-- one turn of a while loop -/
def whK (o : OutS) (k : DS) : OutS := match o with
  | .nx ρ S => k ρ S
  | .ct ρ S => k ρ S
  | .bk ρ S => .nx ρ S
  | o => o
@[simp] theorem whK_nx (ρ : DEnv) (S : Store) (k : DS) : whK (.nx ρ S) k = k ρ S := rfl
@[simp] theorem whK_exn (e : Exc) (ρ : DEnv) (S : Store) (k : DS) : whK (.exn e ρ S) k = .exn e ρ S := rfl
@[simp] theorem whK_bk (ρ : DEnv) (S : Store) (k : DS) : whK (.bk ρ S) k = .nx ρ S := rfl
@[simp] theorem whK_rt (d : D) (S : Store) (k : DS) : whK (.rt d S) k = .rt d S := rfl
theorem whileD_go (c : DT) (f : DS) (n : Nat) (ρ : DEnv) (S : Store) : whileD c f (n + 1) ρ S = liftS (c ρ S) ρ fun b S1 => if b = true then whK (f ρ S1) (whileD c f n) else .nx ρ S1 := by
  rw [whileD]
  congr 1
@[simp] theorem notND_non (S : Store) : notND .non .non S = some (.bl false, S) := rfl
@[simp] theorem isND_non (S : Store) : isND .non .non S = some (.bl true, S) := rfl
@[simp] theorem notND_int (i : Int) (S : Store) : notND (.int i) .non S = some (.bl true, S) := rfl
@[simp] theorem isND_int (i : Int) (S : Store) : isND (.int i) .non S = some (.bl false, S) := rfl
@[simp] theorem isND_tup (xs : List D) (S : Store) : isND (.tup xs) .non S = some (.bl false, S) := rfl
@[simp] theorem notND_tup (xs : List D) (S : Store) : notND (.tup xs) .non S = some (.bl true, S) := rfl
def toldO (rs : List String) (cs : List (String × Str)) (o : Out D) : Out D := match o with
  | .ok d S1 => .ok d S1
  | .exn e S1 => if e.c ∈ rs then (match pickD cs e.c with
    | some t => .ok (.str t) S1
    | none => .bad) else .bad
  | .bad => .bad
@[simp] theorem toldO_ok (rs : List String) (cs : List (String × Str)) (d : D) (S : Store) : toldO rs cs (.ok d S) = .ok d S := rfl
@[simp] theorem e_dTold (rs : List String) (cs : List (String × Str)) (f : DE) (ρ : DEnv) (S : Store) : dTold rs cs f ρ S = toldO rs cs (f ρ S) := by
  unfold dTold toldO
  rfl
@[simp] theorem e_dRaiseI (c : String) (fe : DE) (ρ : DEnv) (S : Store) : dRaiseI c fe ρ S = liftS (fe ρ S) ρ fun _ S1 => .exn ⟨c⟩ ρ S1 := rfl
@[simp] theorem mulD2_obj (n : Nat) (k : Int) (S : Store) : mulD2 (.obj n) (.int k) S = ((lstAt S n).bind fun xs => if -1000 ≤ k ∧ k ≤ 1000 ∧ xs.length ≤ 1000 then some (newO (.lst (List.replicate k.toNat xs).flatten) S) else none) := by
  unfold mulD2
  dsimp only
  cases h : lstAt S n <;> simp [h]
theorem addD_obj {n k : Nat} {xs ys : List D} {S : Store} (h1 : lstAt S n = some xs) (h2 : lstAt S k = some ys) (h3 : xs.length + ys.length ≤ 1000000) : addD (.obj n) (.obj k) S = some (.obj S.length, S ++ [.lst (xs ++ ys)]) := by
  unfold addD
  dsimp only
  rw [h1, h2]
  exact if_pos h3
theorem eqD_str {a b : Str} (h1 : SeqAt.shaped (.str a) = true) (h2 : SeqAt.shaped (.str b) = true) (S : Store) : eqD (.str a) (.str b) S = some (.bl (decide (a = b)), S) := by
  unfold eqD
  simp only [D.toPS, D.toP]
  rw [if_pos ⟨h1, h2⟩]
  simp only [PyData.eqv]
  cases h : (a == b) <;> simp_all
theorem neD_str {a b : Str} (h1 : SeqAt.shaped (.str a) = true) (h2 : SeqAt.shaped (.str b) = true) (S : Store) : neD (.str a) (.str b) S = some (.bl (!decide (a = b)), S) := by
  unfold neD
  simp only [D.toPS, D.toP]
  rw [if_pos ⟨h1, h2⟩]
  simp only [PyData.eqv]
  cases h : (a == b) <;> simp_all
/-- a comprehension that takes nothing -/
theorem lc_none {grd : Store → Bool} {tg : DG} {tt : DT} {fe : DE} {ρ : DEnv} {n : Nat} {S : Store} (hg : grd S = true) : ∀ (ds : List D), (∀ d ∈ ds, ∃ ρ1, tg d ρ S = .nx ρ1 S ∧ tt ρ1 S = .ok false S) → lcD grd tg tt fe n ρ ds S = .ok () S
  | [], h => by rw [lcD_nil, if_pos hg]
  | d :: ds, h => by
    obtain ⟨ρ1, h1, h2⟩ := h d List.mem_cons_self
    rw [lcD_cons, if_pos hg, h1, lcG_nx, h2, lcE_ok]
    simp only [Bool.false_eq_true, if_false]
    exact lc_none hg ds fun x hx => h x (List.mem_cons_of_mem _ hx)
theorem neD_nil {S : Store} {n k : Nat} (h : lstAt S n = some []) (h2 : lstAt S k = some []) : neD (.obj n) (.obj k) S = some (.bl false, S) := by
  unfold neD D.toPS
  dsimp only
  rw [h, h2]
  rfl
/-- the deepness of data -/
def augIxO (fe : DE) (ρ : DEnv) (g : D2) (n : Nat) (k : Int) (S : Store) : Option (List D) → OutS
  | some xs => (match atI xs k with
      | some x => liftS (fe ρ S) ρ fun y S3 => (match g x y S3 with
        | some (d, S4) => (match lstAt S4 n with
          | some ys => (match ixN ys.length k with
            | some j => .nx ρ (S4.set n (.lst (ys.set j d)))
            | none => .bad)
          | none => .bad)
        | none => .bad)
      | none => .bad)
  | none => .bad
@[simp] theorem e_dAugS (fo fi : DE) (g : D2) (fe : DE) (ρ : DEnv) (S : Store) : dAugS fo fi g fe ρ S = liftS (fo ρ S) ρ fun o S1 => liftS (fi ρ S1) ρ fun i S2 => match o, i with
  | .obj n, .int k => augIxO fe ρ g n k S2 (lstAt S2 n)
  | _, _ => .bad := by
  unfold dAugS
  congr 1
@[simp] theorem augIxO_some (fe : DE) (ρ : DEnv) (g : D2) (n : Nat) (k : Int) (S : Store) (xs : List D) : augIxO fe ρ g n k S (some xs) = (match atI xs k with
      | some x => liftS (fe ρ S) ρ fun y S3 => (match g x y S3 with
        | some (d, S4) => (match lstAt S4 n with
          | some ys => (match ixN ys.length k with
            | some j => .nx ρ (S4.set n (.lst (ys.set j d)))
            | none => .bad)
          | none => .bad)
        | none => .bad)
      | none => .bad) := rfl
end
end DL
set_option Elab.async false
set_option linter.all false
set_option maxRecDepth 100000
set_option maxHeartbeats 1000000
namespace DL
open PySem PySem.Spec PyProof.Rows L2
/-! ### equality of data that are alike -/
theorem shaped_lay {p : PyData} (h : SeqAt.shaped p = true) : p.canLay0 = true := by
  unfold SeqAt.shaped at h
  rw [Bool.and_eq_true] at h
  exact h.1
theorem eqv_self {p : PyData} (h : SeqAt.shaped p = true) : PyData.eqv p p = true := by
  have h := shaped_lay h
  exact SeqAt.eqv_refl p h
theorem eqD_same {x y : D} {p : PyData} {S : Store} (h : D.toPS S x = some p) (h2 : D.toPS S y = some p) (hs : SeqAt.shaped p = true) : eqD x y S = some (.bl true, S) := by
  unfold eqD
  rw [h, h2]
  dsimp only
  rw [if_pos ⟨hs, hs⟩, eqv_self hs]
theorem neD_same {x y : D} {p : PyData} {S : Store} (h : D.toPS S x = some p) (h2 : D.toPS S y = some p) (hs : SeqAt.shaped p = true) : neD x y S = some (.bl false, S) := by
  unfold neD
  rw [h, h2]
  dsimp only
  rw [if_pos ⟨hs, hs⟩, eqv_self hs]
  rfl
section
variable {α : Type} {f : α → D} {g : α → PyData} {k : Nat}
theorem toPs_map (h : ∀ a, D.toP (f a) = some (g a)) : ∀ (xs : List α), D.toPs (xs.map f) = some (xs.map g)
  | [] => rfl
  | c :: cs => by
    rw [List.map_cons, List.map_cons]
    unfold D.toPs
    rw [toPs_map h cs, h]
theorem lay_map (h : ∀ a, (g a).canLay0 = true) : ∀ (xs : List α), PyData.canLayAll0 (xs.map g) = true
  | [] => rfl
  | c :: cs => by rw [List.map_cons, PyData.canLayAll0, lay_map h cs, h]; rfl
theorem depth_map (h : ∀ a, (g a).depth ≤ k) : ∀ (xs : List α), PyData.depthAll (xs.map g) ≤ k
  | [] => Nat.zero_le _
  | c :: cs => by rw [List.map_cons, PyData.depthAll]; exact Nat.max_le.mpr ⟨h c, depth_map h cs⟩
/-- data told by g, one by one -/
structure Told (f : α → D) (g : α → PyData) : Prop where
  p : ∀ a, D.toP (f a) = some (g a)
  l : ∀ a, (g a).canLay0 = true
  d : ∀ a, (g a).depth ≤ 62
theorem Told.shaped (T : Told f g) (xs : List α) : SeqAt.shaped (.list (xs.map g)) = true := by
  have := depth_map T.d xs
  unfold SeqAt.shaped
  rw [PyData.canLay0, lay_map T.l, Bool.true_and, decide_eq_true_eq]
  unfold PyData.depth
  omega
theorem Told.shapedT (T : Told f g) (xs : List α) : SeqAt.shaped (.tuple (xs.map g)) = true := by
  have := depth_map T.d xs
  unfold SeqAt.shaped
  rw [PyData.canLay0, lay_map T.l, Bool.true_and, decide_eq_true_eq]
  unfold PyData.depth
  omega
theorem Told.lst (T : Told f g) {S : Store} {n : Nat} {xs : List α} (h : lstAt S n = some (xs.map f)) : D.toPS S (.obj n) = some (.list (xs.map g)) := by
  unfold D.toPS
  dsimp only
  rw [h]
  dsimp only
  rw [toPs_map T.p]
  rfl
theorem Told.tup (T : Told f g) {S : Store} (xs : List α) : D.toPS S (.tup (xs.map f)) = some (.tuple (xs.map g)) := by
  unfold D.toPS D.toP
  dsimp only
  rw [toPs_map T.p]
  rfl
theorem Told.ne_same (T : Told f g) {S : Store} {n m : Nat} {xs : List α} (h : lstAt S n = some (xs.map f)) (h2 : lstAt S m = some (xs.map f)) : neD (.obj n) (.obj m) S = some (.bl false, S) :=
  neD_same (T.lst h) (T.lst h2) (T.shaped xs)
theorem Told.eq_same (T : Told f g) {S : Store} {n m : Nat} {xs : List α} (h : lstAt S n = some (xs.map f)) (h2 : lstAt S m = some (xs.map f)) : eqD (.obj n) (.obj m) S = some (.bl true, S) :=
  eqD_same (T.lst h) (T.lst h2) (T.shaped xs)
theorem Told.nil (T : Told f g) {S : Store} {n m : Nat} {xs : List α} (h : lstAt S n = some (xs.map f)) (h2 : lstAt S m = some []) : eqD (.obj n) (.obj m) S = some (.bl xs.isEmpty, S) ∧ neD (.obj n) (.obj m) S = some (.bl (!xs.isEmpty), S) := by
  have e1 := T.lst h
  have e2 := T.lst (xs := []) h2
  have e3 : PyData.eqv (.list (xs.map g)) (.list (([] : List α).map g)) = xs.isEmpty := by cases xs <;> rfl
  unfold eqD neD
  rw [e1, e2]
  dsimp only
  rw [if_pos ⟨T.shaped xs, T.shaped []⟩, if_pos ⟨T.shaped xs, T.shaped []⟩, e3]
  exact ⟨rfl, rfl⟩
end
def pairP (z : Int × Int) : PyData := .tuple [.int z.1, .int z.2]
theorem told_pair : Told (fun z : Int × Int => D.tup [.int z.1, .int z.2]) pairP := ⟨fun a => rfl, fun a => rfl, fun a => by unfold pairP; simp [PyData.depth, PyData.depthAll]⟩
theorem told_int : Told D.int PyData.int := ⟨fun a => rfl, fun a => rfl, fun a => by simp [PyData.depth]⟩
theorem eqv_pair (a b c d : Int) : PyData.eqv (.tuple [.int a, .int b]) (.tuple [.int c, .int d]) = decide (a = c ∧ b = d) := by
  simp [PyData.eqv, PyData.eqvAll]
  rw [Bool.eq_iff_iff]
  simp
theorem eqD_pair (a b c d : Int) (S : Store) : eqD (.tup [.int a, .int b]) (.tup [.int c, .int d]) S = some (.bl (decide (a = c ∧ b = d)), S) := by
  have s := fun (x y : Int) => told_int.shapedT [x, y]
  unfold eqD
  have t1 : D.toPS S (.tup [.int a, .int b]) = some (.tuple [.int a, .int b]) := told_int.tup (S := S) [a, b]
  have t2 : D.toPS S (.tup [.int c, .int d]) = some (.tuple [.int c, .int d]) := told_int.tup (S := S) [c, d]
  rw [t1, t2]
  dsimp only
  rw [if_pos ⟨s a b, s c d⟩]
  exact congrArg (fun z => some (D.bl z, S)) (eqv_pair a b c d)
theorem neD_pair (a b c d : Int) (S : Store) : neD (.tup [.int a, .int b]) (.tup [.int c, .int d]) S = some (.bl (!decide (a = c ∧ b = d)), S) := by
  have s := fun (x y : Int) => told_int.shapedT [x, y]
  unfold neD
  have t1 : D.toPS S (.tup [.int a, .int b]) = some (.tuple [.int a, .int b]) := told_int.tup (S := S) [a, b]
  have t2 : D.toPS S (.tup [.int c, .int d]) = some (.tuple [.int c, .int d]) := told_int.tup (S := S) [c, d]
  rw [t1, t2]
  dsimp only
  rw [if_pos ⟨s a b, s c d⟩]
  exact congrArg (fun z => some (D.bl (!z), S)) (eqv_pair a b c d)
theorem sliceD_tup (xs : List D) (lo hi : Option Int) (S : Store) : sliceD (.tup xs) lo hi S = some (.tup (cutD xs lo hi), S) := rfl
end DL
set_option Elab.async false
set_option linter.all false
set_option maxRecDepth 100000
set_option maxHeartbeats 1000000
namespace Pr
open PySem PySem.Spec PyProof.Rows L2 DL
def pt (q : Rat) : D := .tup [.int q.num, .int q.den]
/-! ### the loop of Euclid -/
theorem gcd_loop {e : Nat} : ∀ (n a b : Nat) (x y : Option D) (rest : List (Option D)) (S : Store), b ≤ a → a * b < 2 ^ n →
    ∃ z, whileD (dB (dOp neD (dVar 3) (dC (.int 0)))) (dPar2 2 3 (daCons (dVar 3) (daCons (dOp modD (dVar 2) (dVar 3)) daNil))) (n + 1 + e) (x :: y :: some (.int (a : Int)) :: some (.int (b : Int)) :: rest) S
      = .nx (x :: y :: some (.int (Nat.gcd a b : Int)) :: some (.int z) :: rest) S := by
  intro n
  induction n with
  | zero =>
    intro a b x y rest S h h2
    have : b = 0 := by
      cases b with
      | zero => rfl
      | succ b => exfalso; have : 1 * 1 ≤ a * (b + 1) := Nat.mul_le_mul (by omega) (by omega); omega
    subst this
    rw [show 0 + 1 + e = e + 1 from by omega]
    exact ⟨0, by simp [whileD]⟩
  | succ n ih =>
    intro a b x y rest S h h2
    rw [show n + 1 + 1 + e = (n + 1 + e) + 1 from by omega]
    by_cases hb : b = 0
    · subst hb
      exact ⟨0, by simp [whileD]⟩
    · have hr := Nat.mod_lt a (Nat.pos_of_ne_zero hb)
      have h3 : 2 * (a % b) ≤ a := by
        have h5 := Nat.div_add_mod a b
        have h6 : 1 ≤ a / b := Nat.div_pos h (Nat.pos_of_ne_zero hb)
        have h7 : b * 1 ≤ b * (a / b) := Nat.mul_le_mul_left b h6
        omega
      have h4 : b * (a % b) < 2 ^ n := by
        have h5 : b * (2 * (a % b)) ≤ b * a := Nat.mul_le_mul_left b h3
        rw [Nat.mul_comm b a] at h5
        rw [Nat.pow_succ] at h2
        have h6 : b * (2 * (a % b)) = 2 * (b * (a % b)) := by rw [← Nat.mul_assoc, Nat.mul_comm b 2, Nat.mul_assoc]
        omega
      obtain ⟨z, hz⟩ := ih b (a % b) x y rest S (Nat.le_of_lt hr) h4
      refine ⟨z, ?_⟩
      have e1 : Nat.gcd b (a % b) = Nat.gcd a b := by rw [Nat.gcd_comm b, Nat.gcd_comm a b]; exact (Nat.gcd_rec b a).symm
      rw [e1] at hz
      have p : 0 < b := by omega
      rw [whileD]
      simp [hb, modD, p]
      exact hz
theorem gcd_any {a b : Nat} {x y : Option D} {rest : List (Option D)} {S : Store} (h : a * b < 2 ^ 20000) :
    ∃ z, whileD (dB (dOp neD (dVar 3) (dC (.int 0)))) (dPar2 2 3 (daCons (dVar 3) (daCons (dOp modD (dVar 2) (dVar 3)) daNil))) fuel (x :: y :: some (.int (a : Int)) :: some (.int (b : Int)) :: rest) S
      = .nx (x :: y :: some (.int (Nat.gcd a b : Int)) :: some (.int z) :: rest) S := by
  by_cases hab : b ≤ a
  · rw [show fuel = 20000 + 1 + 979999 from rfl]
    exact gcd_loop 20000 a b x y rest S hab h
  · rw [show fuel = (20000 + 1 + 979998) + 1 from rfl]
    obtain ⟨z, hz⟩ := gcd_loop (e := 979998) 20000 b a x y rest S (by omega) (by rw [Nat.mul_comm]; exact h)
    refine ⟨z, ?_⟩
    rw [whileD]
    have p : 0 < b := by omega
    have p2 : b ≠ 0 := by omega
    have e2 : (a : Int) % (b : Int) = (a : Int) := Int.emod_eq_of_lt (by omega) (by omega)
    rw [Nat.gcd_comm] at hz
    simp [p2, modD, p, e2]
    exact hz
theorem M_part_ok {t b : Int} (hb : b ≠ 0) (h1 : t.natAbs < 2 ^ 9000) (h2 : b.natAbs < 2 ^ 9000) (S : Store) : M_part [.int t, .int b] S = .ok (pt (Rat.divInt t b)) S := by
  have hm : t.natAbs * b.natAbs < 2 ^ 20000 := by
    have := Nat.mul_le_mul (Nat.le_of_lt h1) (Nat.le_of_lt h2)
    rw [← Nat.pow_add] at this
    exact Nat.lt_of_le_of_lt this (Nat.pow_lt_pow_right (by decide) (by decide))
  obtain ⟨z, hz⟩ := gcd_any (x := some (.int t)) (y := some (.int b)) (rest := [none]) (S := S) hm
  have hg : 0 < Nat.gcd t.natAbs b.natAbs := Nat.gcd_pos_of_pos_right _ (by omega)
  have hg2 : Nat.gcd t.natAbs b.natAbs < 2 ^ 9000 := Nat.lt_of_le_of_lt (Nat.gcd_le_right _ (by omega)) h2
  have hmax : (if (1 : Int) > (Nat.gcd t.natAbs b.natAbs : Int) then (1 : Int) else (Nat.gcd t.natAbs b.natAbs : Int)) = (Nat.gcd t.natAbs b.natAbs : Int) := by
    rw [if_neg (by omega)]
  have q1 : (Rat.divInt t b).num = (b.sign * t) / (Nat.gcd t.natAbs b.natAbs : Int) := by
    rw [Rat.num_divInt]; congr 2; rw [Int.gcd, Nat.gcd_comm]
  have q2 : ((Rat.divInt t b).den : Int) = (b.natAbs : Int) / (Nat.gcd t.natAbs b.natAbs : Int) := by
    rw [Rat.den_divInt, if_neg hb, Int.gcd, Nat.gcd_comm]; simp
  have sg : (if 0 < b then (1 : Int) else -1) = b.sign := by
    by_cases p : 0 < b
    · rw [if_pos p, Int.sign_eq_one_of_pos p]
    · rw [if_neg p, Int.sign_eq_neg_one_of_neg (by omega)]
  have t1 : (b.sign).natAbs < 2 ^ 9000 := by
    have h1 := Int.natAbs_sign_of_ne_zero hb
    rw [h1]
    exact Nat.one_lt_two_pow (by decide)
  have hg3 : ((Nat.gcd t.natAbs b.natAbs : Int)).natAbs < 2 ^ 9000 := hg2
  have hmx : max (Nat.gcd t.natAbs b.natAbs : Int) 1 = (Nat.gcd t.natAbs b.natAbs : Int) := by omega
  simp only [M_part, e_runD, f_part]
  simp [startD, hb, hz, hmx]
  have e9 : (if 0 < b then Out.ok (D.int 1) S else Out.ok (D.int (-1)) S) = Out.ok (D.int b.sign) S := by
    rw [← sg]; split <;> rfl
  have hg4 : (0 : Int) < (Nat.gcd t.natAbs b.natAbs : Int) := by omega
  rw [e9]
  simp [hmx, mulD_int t1 h1, fdivD_int hg4 hg3, pt, q1, q2]
/-! ### sizes -/
def Sz (n : Nat) (q : Rat) : Prop := q.num.natAbs < 2 ^ n ∧ q.den < 2 ^ n
theorem Sz.up {n m : Nat} {q : Rat} (h : Sz n q) (k : n ≤ m) : Sz m q := ⟨Nat.lt_of_lt_of_le h.1 (Nat.pow_le_pow_right (by decide) k), Nat.lt_of_lt_of_le h.2 (Nat.pow_le_pow_right (by decide) k)⟩
theorem mul_lt_pow {a b m n : Nat} (h1 : a < 2 ^ m) (h2 : b < 2 ^ n) : a * b < 2 ^ (m + n) := by
  rw [Nat.pow_add]
  by_cases h : a = 0
  · subst h; rw [Nat.zero_mul]; exact Nat.mul_pos (Nat.two_pow_pos m) (Nat.two_pow_pos n)
  · exact Nat.mul_lt_mul_of_lt_of_le h1 (Nat.le_of_lt h2) (Nat.two_pow_pos n)
theorem divInt_sz {t b : Int} {n : Nat} (hb : b ≠ 0) (h1 : t.natAbs < 2 ^ n) (h2 : b.natAbs < 2 ^ n) : Sz n (Rat.divInt t b) := by
  refine ⟨?_, ?_⟩
  · rw [Rat.num_divInt]
    have h3 : (b.sign * t / (b.gcd t : Int)).natAbs ≤ (b.sign * t).natAbs := by
      rw [Int.natAbs_ediv_of_dvd]
      · exact Nat.div_le_self _ _
      · exact Int.dvd_trans (Int.gcd_dvd_right b t) (Int.dvd_mul_left _ _)
    rw [Int.natAbs_mul, Int.natAbs_sign_of_ne_zero hb, Nat.one_mul] at h3
    omega
  · rw [Rat.den_divInt, if_neg hb]
    exact Nat.lt_of_le_of_lt (Nat.div_le_self _ _) h2
theorem lt_up {a m n : Nat} (h : a < 2 ^ m) (k : m ≤ n) : a < 2 ^ n := Nat.lt_of_lt_of_le h (Nat.pow_le_pow_right (by decide) k)
section
variable {q r : Rat} {m n : Nat}
theorem mulA (h1 : q.num.natAbs < 2 ^ m) (h2 : r.den < 2 ^ n) : (q.num * (r.den : Int)).natAbs < 2 ^ (m + n) := by
  rw [Int.natAbs_mul]; exact mul_lt_pow h1 h2
theorem add_b (h1 : Sz m q) (h2 : Sz n r) : (q.num * (r.den : Int) + r.num * (q.den : Int)).natAbs < 2 ^ (m + n + 1) := by
  have a := mulA (q := q) (r := r) h1.1 h2.2
  have b := mulA (q := r) (r := q) h2.1 h1.2
  rw [Nat.add_comm n m] at b
  rw [Nat.pow_succ]
  omega
theorem sub_b (h1 : Sz m q) (h2 : Sz n r) : (q.num * (r.den : Int) - r.num * (q.den : Int)).natAbs < 2 ^ (m + n + 1) := by
  have a := mulA (q := q) (r := r) h1.1 h2.2
  have b := mulA (q := r) (r := q) h2.1 h1.2
  rw [Nat.add_comm n m] at b
  rw [Nat.pow_succ]
  omega
theorem den_b (h1 : Sz m q) (h2 : Sz n r) : ((q.den : Int) * (r.den : Int)).natAbs < 2 ^ (m + n) := by
  rw [Int.natAbs_mul]; exact mul_lt_pow h1.2 h2.2
theorem num_b (h1 : Sz m q) (h2 : Sz n r) : (q.num * r.num).natAbs < 2 ^ (m + n) := by
  rw [Int.natAbs_mul]; exact mul_lt_pow h1.1 h2.1
theorem den_ne : (q.den : Int) * (r.den : Int) ≠ 0 := Int.mul_ne_zero (by have := q.den_nz; omega) (by have := r.den_nz; omega)
theorem add_di : q + r = Rat.divInt (q.num * (r.den : Int) + r.num * (q.den : Int)) ((q.den : Int) * (r.den : Int)) := by
  rw [Rat.add_def', ← Int.natCast_mul, Rat.divInt_ofNat]
theorem sub_di : q - r = Rat.divInt (q.num * (r.den : Int) - r.num * (q.den : Int)) ((q.den : Int) * (r.den : Int)) := by
  rw [Rat.sub_def', ← Int.natCast_mul, Rat.divInt_ofNat]
theorem mul_di : q * r = Rat.divInt (q.num * r.num) ((q.den : Int) * (r.den : Int)) := by
  rw [Rat.mul_def', ← Int.natCast_mul, Rat.divInt_ofNat]
theorem div_di : q / r = Rat.divInt (q.num * (r.den : Int)) ((q.den : Int) * r.num) := by
  rw [Rat.div_def, Rat.inv_def]
  conv => lhs; rw [← Rat.num_divInt_den q]
  rw [Rat.divInt_mul_divInt]
theorem Sz.add (h1 : Sz m q) (h2 : Sz n r) : Sz (m + n + 1) (q + r) := by
  rw [add_di]; exact divInt_sz den_ne (add_b h1 h2) (lt_up (den_b h1 h2) (by omega))
theorem Sz.sub (h1 : Sz m q) (h2 : Sz n r) : Sz (m + n + 1) (q - r) := by
  rw [sub_di]; exact divInt_sz den_ne (sub_b h1 h2) (lt_up (den_b h1 h2) (by omega))
theorem Sz.mul (h1 : Sz m q) (h2 : Sz n r) : Sz (m + n) (q * r) := by
  rw [mul_di]; exact divInt_sz den_ne (num_b h1 h2) (den_b h1 h2)
theorem Sz.div (h1 : Sz m q) (h2 : Sz n r) (h : r ≠ 0) : Sz (m + n) (q / r) := by
  rw [div_di]
  have hr : r.num ≠ 0 := fun z => h (Rat.num_eq_zero.mp z)
  refine divInt_sz (Int.mul_ne_zero (by have := q.den_nz; omega) hr) (mulA h1.1 h2.2) ?_
  rw [Int.mul_comm, Nat.add_comm]
  exact mulA h2.1 h1.2
theorem M_times_ok (h1 : Sz 4000 q) (h2 : Sz 4000 r) (S : Store) : M_times [pt q, pt r] S = .ok (pt (q * r)) S := by
  have a1 := lt_up (n := 9000) h1.1 (by decide)
  have a2 : ((q.den : Int)).natAbs < 2 ^ 9000 := lt_up (n := 9000) h1.2 (by decide)
  have a3 := lt_up (n := 9000) h2.1 (by decide)
  have a4 : ((r.den : Int)).natAbs < 2 ^ 9000 := lt_up (n := 9000) h2.2 (by decide)
  have b1 := M_part_ok (t := q.num * r.num) den_ne (lt_up (num_b h1 h2) (by decide)) (lt_up (den_b h1 h2) (by decide)) S
  rw [← mul_di] at b1
  simp [M_times, f_times, startD, pt, mulD_int a1 a3, mulD_int a2 a4]
  rw [b1]; rfl
def cmpQ (q r : Rat) : Int := if q < r then -1 else if q = r then 0 else 1
theorem M_order_ok (h1 : Sz 4000 q) (h2 : Sz 4000 r) (S : Store) : M_order [pt q, pt r] S = .ok (.int (cmpQ q r)) S := by
  have a1 := lt_up (n := 9000) h1.1 (by decide)
  have a2 : ((q.den : Int)).natAbs < 2 ^ 9000 := lt_up (n := 9000) h1.2 (by decide)
  have a3 := lt_up (n := 9000) h2.1 (by decide)
  have a4 : ((r.den : Int)).natAbs < 2 ^ 9000 := lt_up (n := 9000) h2.2 (by decide)
  simp [M_order, f_order, startD, pt, mulD_int a1 a4, mulD_int a3 a2, b2, cmpQ]
  have e1 := Rat.lt_iff q r
  have e2 := @Rat.eq_iff_mul_eq_mul q r
  by_cases p : q < r
  · have p1 := e1.mp p
    rw [if_pos p, if_neg (by omega), if_pos (by omega)]; rfl
  · have p1 : ¬ q.num * (r.den : Int) < r.num * (q.den : Int) := fun z => p (e1.mpr z)
    rw [if_neg p]
    by_cases p2 : q = r
    · have p3 := e2.mp p2
      rw [if_pos p2, if_neg (by omega), if_neg (by omega)]; rfl
    · have p3 : ¬ q.num * (r.den : Int) = r.num * (q.den : Int) := fun z => p2 (e2.mpr z)
      rw [if_neg p2, if_pos (by omega), if_neg (by omega)]; rfl
theorem pt_inj : pt q = pt r ↔ q = r := by
  constructor
  · intro h
    simp only [pt, D.tup.injEq, List.cons.injEq, D.int.injEq, and_true] at h
    exact Rat.ext h.1 (by omega)
  · rintro rfl; rfl
theorem eqv_pt : PyData.eqv (.tuple [.int q.num, .int q.den]) (.tuple [.int r.num, .int r.den]) = decide (q = r) := by
  have e : PyData.eqv (.tuple [.int q.num, .int q.den]) (.tuple [.int r.num, .int r.den]) = (decide (q.num = r.num) && decide ((q.den : Int) = (r.den : Int))) := by
    simp [PyData.eqv, PyData.eqvAll, Bool.beq_eq_decide_eq]
  rw [e]
  by_cases h : q = r
  · subst h; simp
  · rw [decide_eq_false h]
    cases z : (decide (q.num = r.num) && decide ((q.den : Int) = (r.den : Int))) with
    | false => rfl
    | true =>
      simp at z
      exact absurd (Rat.ext z.1 (by omega)) h
@[simp] theorem eqD_pt (S : Store) : eqD (pt q) (pt r) S = some (.bl (decide (q = r)), S) := by
  unfold eqD
  simp only [pt, D.toPS, D.toP, D.toPs, Option.map_some]
  rw [if_pos ⟨rfl, rfl⟩, eqv_pt]
@[simp] theorem neD_pt (S : Store) : neD (pt q) (pt r) S = some (.bl (!decide (q = r)), S) := by
  unfold neD
  simp only [pt, D.toPS, D.toP, D.toPs, Option.map_some]
  rw [if_pos ⟨rfl, rfl⟩, eqv_pt]
end
end Pr
set_option Elab.async false
set_option linter.all false
set_option maxRecDepth 100000
set_option maxHeartbeats 1000000
namespace Pr
open PySem PySem.Spec PyProof.Rows L2 DL
theorem tup_int (k : Int) : D.tup [.int k, .int 1] = pt (k : Rat) := rfl
@[simp] theorem ix0_pt (q : Rat) (S : Store) : ixD (pt q) (.int 0) S = some (.int q.num, S) := by simp [pt]
@[simp] theorem ix1_pt (q : Rat) (S : Store) : ixD (pt q) (.int 1) S = some (.int q.den, S) := by simp [pt]
theorem sz_int {k : Int} {n : Nat} (h : k.natAbs < 2 ^ (n + 1)) : Sz (n + 1) (k : Rat) := ⟨h, by
  show 1 < 2 ^ (n + 1)
  exact Nat.one_lt_two_pow (by omega)⟩
/-- the size of a part -/
def bits (q : Rat) : Nat := max (q.num.natAbs.log2 + 1) (q.den.log2 + 1)
theorem lt_log2 (a : Nat) : a < 2 ^ (a.log2 + 1) := Nat.lt_log2_self
theorem sz_bits {q : Rat} {n : Nat} (h : bits q ≤ n) : Sz n q := by
  have := Nat.le_max_left (q.num.natAbs.log2 + 1) (q.den.log2 + 1)
  have := Nat.le_max_right (q.num.natAbs.log2 + 1) (q.den.log2 + 1)
  unfold bits at h
  exact ⟨lt_up (lt_log2 _) (by omega), lt_up (lt_log2 _) (by omega)⟩
theorem bits_sz {q : Rat} {n : Nat} (h : Sz (n + 1) q) : bits q ≤ n + 1 := by
  have a := log2_lt' h.1 (by omega)
  have b := log2_lt' h.2 (by omega)
  unfold bits
  omega
theorem bits_pos (q : Rat) : 1 ≤ bits q := by unfold bits; omega
theorem bits_add (q r : Rat) : bits (q + r) ≤ bits q + bits r + 1 := bits_sz (Sz.add (sz_bits (Nat.le_refl _)) (sz_bits (Nat.le_refl _)))
theorem bits_sub (q r : Rat) : bits (q - r) ≤ bits q + bits r + 1 := bits_sz (Sz.sub (sz_bits (Nat.le_refl _)) (sz_bits (Nat.le_refl _)))
theorem bits_mul (q r : Rat) : bits (q * r) ≤ bits q + bits r := by
  have h := bits_pos q
  obtain ⟨k, e⟩ : ∃ k, bits q + bits r = k + 1 := ⟨bits q + bits r - 1, by omega⟩
  have z := Sz.mul (sz_bits (Nat.le_refl (bits q))) (sz_bits (Nat.le_refl (bits r)))
  rw [e] at z ⊢
  exact bits_sz z
theorem bits_div (q r : Rat) : bits (q / r) ≤ bits q + bits r := by
  by_cases h0 : r = 0
  · subst h0
    have : q / 0 = 0 := by rw [Rat.div_def]; simp
    rw [this]
    have h := bits_pos q
    have h2 : bits 0 = 1 := by decide
    omega
  · have h := bits_pos q
    obtain ⟨k, e⟩ : ∃ k, bits q + bits r = k + 1 := ⟨bits q + bits r - 1, by omega⟩
    have z := Sz.div (sz_bits (Nat.le_refl (bits q))) (sz_bits (Nat.le_refl (bits r))) h0
    rw [e] at z ⊢
    exact bits_sz z
theorem bits_ite (c : Prop) [Decidable c] (q r : Rat) : bits (if c then q else r) ≤ bits q + bits r := by
  split <;> omega
theorem bits_int {k : Int} {n : Nat} (h : k.natAbs < 2 ^ (n + 1)) : bits (k : Rat) ≤ n + 1 := bits_sz (sz_int h)
theorem bits_one : bits 1 = 1 := by decide
theorem bits_zero : bits 0 = 1 := by decide
section
variable {q r : Rat} {S : Store}
theorem B_times (h1 : bits q ≤ 4000) (h2 : bits r ≤ 4000) : M_times [pt q, pt r] S = .ok (pt (q * r)) S := M_times_ok (sz_bits h1) (sz_bits h2) S
theorem B_order (h1 : bits q ≤ 4000) (h2 : bits r ≤ 4000) : M_order [pt q, pt r] S = .ok (.int (cmpQ q r)) S := M_order_ok (sz_bits h1) (sz_bits h2) S
end
theorem ite_ok {α : Type} (c : Prop) [Decidable c] (a b : α) (S : Store) : (if c then Out.ok a S else Out.ok b S) = Out.ok (if c then a else b) S := by split <;> rfl
theorem ite_pt (c : Prop) [Decidable c] (q r : Rat) : (if c then pt q else pt r) = pt (if c then q else r) := by split <;> rfl

structure BLe (q : Rat) (n : Nat) : Prop where
  le : bits q ≤ n
section
variable {q r : Rat} {m n k : Nat} {S : Store}
theorem BLe.fin (h : BLe q n) (e : Nat.ble n k = true) : BLe q k := ⟨Nat.le_trans h.le (Nat.le_of_ble_eq_true e)⟩
theorem BLe.mul (h1 : BLe q m) (h2 : BLe r n) : BLe (q * r) (m + n) := ⟨by have := bits_mul q r; have := h1.le; have := h2.le; omega⟩
theorem BLe.div (h1 : BLe q m) (h2 : BLe r n) : BLe (q / r) (m + n) := ⟨by have := bits_div q r; have := h1.le; have := h2.le; omega⟩
theorem BLe.add (h1 : BLe q m) (h2 : BLe r n) : BLe (q + r) (m + n + 1) := ⟨by have := bits_add q r; have := h1.le; have := h2.le; omega⟩
theorem BLe.sub (h1 : BLe q m) (h2 : BLe r n) : BLe (q - r) (m + n + 1) := ⟨by have := bits_sub q r; have := h1.le; have := h2.le; omega⟩
theorem BLe.ite {c : Prop} [Decidable c] (h1 : BLe q m) (h2 : BLe r n) : BLe (if c then q else r) (m + n) := ⟨by have := bits_ite c q r; have := h1.le; have := h2.le; omega⟩
theorem BLe.one : BLe 1 1 := ⟨by decide⟩
theorem BLe.zero : BLe 0 1 := ⟨by decide⟩
theorem C_times (h1 : BLe q 4000) (h2 : BLe r 4000) : M_times [pt q, pt r] S = .ok (pt (q * r)) S := B_times h1.le h2.le
theorem C_order (h1 : BLe q 4000) (h2 : BLe r 4000) : M_order [pt q, pt r] S = .ok (.int (cmpQ q r)) S := B_order h1.le h2.le
end
theorem divInt_div (a b : Int) : Rat.divInt a b = (a : Rat) / b := Rat.divInt_eq_div a b
theorem mulD_l {i j : Int} {S : Store} (h : i.natAbs < 18446744073709551616) : mulD (.int i) (.int j) S = some (.int (i * j), S) := if_pos (.inl (.inl h))
theorem mulD_r {i j : Int} {S : Store} (h : j.natAbs < 18446744073709551616) : mulD (.int i) (.int j) S = some (.int (i * j), S) := if_pos (.inl (.inr h))

end Pr
set_option Elab.async false
set_option linter.all false
set_option maxRecDepth 100000
set_option maxHeartbeats 1000000
namespace Pr
open PySem PySem.Spec PyProof.Rows L2 DL
theorem notIn_half (S : Store) : notInD (.str "half up") (.tup [.str "down", .str "up", .str "half up", .str "half even", .str "half down"]) S = some (.bl false, S) := rfl
theorem eq_half1 (S : Store) : eqD (.str "half up") (.str "up") S = some (.bl false, S) := by rw [eqD_str (by decide +kernel) (by decide +kernel)]; rfl
theorem eq_half2 (S : Store) : eqD (.str "half up") (.str "half up") S = some (.bl true, S) := by rw [eqD_str (by decide +kernel) (by decide +kernel)]; rfl
theorem eq_half3 (S : Store) : eqD (.str "half") (.str "half") S = some (.bl true, S) := by rw [eqD_str (by decide +kernel) (by decide +kernel)]; rfl
theorem sl_half (S : Store) : sliceD (.str "half up") none (some 4) S = some (.str "half", S) := rfl
theorem half_up {n d : Int} (hd : 0 < d) : (2 * n + d) / (2 * d) = n / d + if d ≤ 2 * (n % d) then 1 else 0 := by
  have e := Int.mul_ediv_add_emod n d
  have r0 := Int.emod_nonneg n (show d ≠ 0 by omega)
  have r1 := Int.emod_lt_of_pos n hd
  generalize n / d = k at *
  generalize n % d = r at *
  subst e
  have e2 : 2 * (d * k + r) + d = (2 * r + d) + 2 * d * k := by rw [Int.mul_assoc]; omega
  rw [e2, Int.add_mul_ediv_left _ _ (by omega), Int.add_comm]
  congr 1
  split
  · rename_i h
    rw [show 2 * r + d = (2 * r - d) + 2 * d * 1 by omega, Int.add_mul_ediv_left _ _ (by omega), Int.ediv_eq_zero_of_lt (by omega) (by omega)]; rfl
  · rename_i h
    exact Int.ediv_eq_zero_of_lt (by omega) (by omega)
theorem rounded_half {q : Rat} (hq : 0 ≤ q.num) (hs : Sz 4000 q) (S : Store) : M_rounded [pt q, .str "half up"] S = .ok (.int ((2 * q.num + q.den) / (2 * q.den))) S := by
  have hd : (0 : Int) < (q.den : Int) := by have := q.den_nz; omega
  have hd2 : ((q.den : Int)).natAbs < 2 ^ 9000 := lt_up hs.2 (by decide)
  have hn : ((q.num.natAbs : Nat) : Int) = q.num := by omega
  have s2 : (2 : Int).natAbs < 18446744073709551616 := by decide
  have s1 : (1 : Int).natAbs < 18446744073709551616 := by decide
  rw [half_up hd]
  simp -implicitDefEqProofs only [M_rounded, e_runD, f_rounded]
  rcases Int.lt_trichotomy (2 * (q.num % (q.den : Int))) (q.den : Int) with c | c | c
  · have c1 : ¬ (q.den : Int) < 2 * (q.num % (q.den : Int)) := by omega
    have c2 : ¬ 2 * (q.num % (q.den : Int)) = (q.den : Int) := by omega
    have c3 : ¬ (q.den : Int) ≤ 2 * (q.num % (q.den : Int)) := by omega
    simp -implicitDefEqProofs [startD, notIn_half, eq_half1, eq_half2, sl_half, eq_half3, hn, fdivD_int hd hd2, modD_int hd, mulD_l s2, mulD_l s1, Int.not_lt.mpr hq, c1, c2, c3]
  · have c1 : ¬ (q.den : Int) < 2 * (q.num % (q.den : Int)) := by omega
    have c3 : (q.den : Int) ≤ 2 * (q.num % (q.den : Int)) := by omega
    simp -implicitDefEqProofs [startD, notIn_half, eq_half1, eq_half2, sl_half, eq_half3, hn, fdivD_int hd hd2, modD_int hd, mulD_l s2, mulD_l s1, Int.not_lt.mpr hq, c1, c, c3]
  · have c2 : ¬ 2 * (q.num % (q.den : Int)) = (q.den : Int) := by omega
    have c3 : (q.den : Int) ≤ 2 * (q.num % (q.den : Int)) := by omega
    simp -implicitDefEqProofs [startD, notIn_half, eq_half1, eq_half2, sl_half, eq_half3, hn, fdivD_int hd hd2, modD_int hd, mulD_l s2, mulD_l s1, Int.not_lt.mpr hq, c, c2, c3]
/-- the interest -/
def inI (h l : Int) : Int := (2 * l * h + 100) / 200
def rateQ (h : Int) : Rat := (h : Rat) / 100
theorem half_same {n d m : Int} (hd : 0 < d) (e : n * 100 = m * d) : (2 * n + d) / (2 * d) = (2 * m + 100) / 200 := by
  have e1 : (2 * n + d) / (2 * d) = ((2 * n + d) * 100) / (2 * d * 100) := (Int.mul_ediv_mul_of_pos_left _ _ (by omega)).symm
  have e2 : (2 * n + d) * 100 = (2 * m + 100) * d := by rw [Int.add_mul, Int.add_mul, Int.mul_assoc 2 n, e, Int.mul_assoc]; omega
  have e3 : 2 * d * 100 = 200 * d := by omega
  rw [e1, e2, e3, Int.mul_ediv_mul_of_pos_left _ _ hd]
end Pr
set_option Elab.async false
set_option linter.all false
set_option maxRecDepth 100000
set_option maxHeartbeats 1000000
namespace Pr
open PySem PySem.Spec PyProof.Rows L2 DL
/-! ### even wear -/
def evE (w : Int) (y k : Nat) : Int := w * ((k : Int) + 1) / (y : Int) - w * (k : Int) / (y : Int)
def evL (w : Int) (y : Nat) : List Int := (List.range y).map (evE w y)
section
variable {c r : Int} {y : Nat} (h0 : 0 ≤ r) (hrc : r ≤ c) (hc : c < 2 ^ 40) (hy : 1 ≤ y) (hy2 : y ≤ 100)
include h0 hrc hy
theorem check_ok (S : Store) : M_check_thing [.int c, .int r, .int (y : Int)] S = .ok .non S := by
  have n1 : ¬ (y : Int) < 1 := by omega
  simp -implicitDefEqProofs only [M_check_thing, e_runD, f_check_thing]
  simp -implicitDefEqProofs [startD, h0, hrc, n1]
include hc hy2
theorem even_ok (S : Store) : M_even [.int c, .int r, .int (y : Int)] S = .ok (.tup ((evL (c - r) y).map D.int)) (S ++ [.lst ((evL (c - r) y).map D.int)]) := by
  have y0 : (0 : Int) < (y : Int) := by omega
  have y1 : ((y : Int)).natAbs < 18446744073709551616 := by omega
  have w1 : (c - r).natAbs < 18446744073709551616 := by omega
  have z : lcD grdT (gN 4) dYes (dOp subD (dOp fdivD (dOp mulD (dVar 3) (dOp addD (dVar 4) (dC (.int 1)))) (dVar 2)) (dOp fdivD (dOp mulD (dVar 3) (dVar 4)) (dVar 2))) S.length [some (.int c), some (.int r), some (.int (y : Int)), some (.int (c - r)), none] (rngD 0 1 y) (S ++ [.lst []]) = .ok () (S ++ [.lst ((evL (c - r) y).map D.int)]) := by
    rw [evL, List.map_map]
    refine lcD_map (grd := grdT) (a := fun (i : Nat) => D.int (0 + (i : Int) * 1)) (f := D.int ∘ evE (c - r) y) (fun _ => rfl) (List.range y) [] (fun i hi X => ⟨_, rfl, ?_⟩) (by simp; omega)
    simp -implicitDefEqProofs [mulD_l w1, fdiv_small y0 y1, evE]
  have hr : -1000000000000 ≤ (y : Int) ∧ (y : Int) ≤ 1000000000000 := by omega
  simp -implicitDefEqProofs only [M_even, e_runD, f_even]
  simp -implicitDefEqProofs [startD, check_ok h0 hrc hy, hr, z]
end
/-! plain facts of even wear -/
theorem evE_two {w : Int} {y k : Nat} (hy : 1 ≤ y) : evE w y k = w / (y : Int) ∨ evE w y k = w / (y : Int) + 1 := by
  unfold evE
  have y0 : (0 : Int) < (y : Int) := by omega
  have e1 := Int.mul_ediv_add_emod (w * ((k : Int) + 1)) (y : Int)
  have e2 := Int.mul_ediv_add_emod (w * (k : Int)) (y : Int)
  have e3 := Int.mul_ediv_add_emod w (y : Int)
  have a1 := Int.emod_nonneg (w * ((k : Int) + 1)) (show (y : Int) ≠ 0 by omega)
  have a2 := Int.emod_nonneg (w * (k : Int)) (show (y : Int) ≠ 0 by omega)
  have a3 := Int.emod_nonneg w (show (y : Int) ≠ 0 by omega)
  have b1 := Int.emod_lt_of_pos (w * ((k : Int) + 1)) y0
  have b2 := Int.emod_lt_of_pos (w * (k : Int)) y0
  have b3 := Int.emod_lt_of_pos w y0
  rw [Int.mul_add, Int.mul_one] at e1 a1 b1 ⊢
  generalize (w * (k : Int) + w) / (y : Int) = A at *
  generalize w * (k : Int) / (y : Int) = B at *
  generalize w / (y : Int) = C at *
  generalize (w * (k : Int) + w) % (y : Int) = ra at *
  generalize w * (k : Int) % (y : Int) = rb at *
  generalize w % (y : Int) = rc at *
  generalize w * (k : Int) = wk at *
  have e4 : (y : Int) * (A - B - C) = rb + rc - ra := by rw [Int.mul_sub, Int.mul_sub]; omega
  have h1 : A - B - C < 2 := by
    refine Int.lt_of_mul_lt_mul_left (a := (y : Int)) ?_ (by omega)
    omega
  have h2 : -1 < A - B - C := by
    refine Int.lt_of_mul_lt_mul_left (a := (y : Int)) ?_ (by omega)
    omega
  omega
theorem ev_two {w : Int} {y : Nat} (hy : 1 ≤ y) : ∀ e ∈ evL w y, e = w / (y : Int) ∨ e = w / (y : Int) + 1 := fun e he => by
  obtain ⟨k, _, rfl⟩ := List.mem_map.mp he
  exact evE_two hy
theorem ev_len (w : Int) (y : Nat) : (evL w y).length = y := by simp [evL]
theorem tele {f : Nat → Int} : ∀ n, ((List.range n).map fun k => f (k + 1) - f k).sum = f n - f 0
  | 0 => by simp
  | n + 1 => by rw [List.range_succ, List.map_append, List.sum_append, tele n]; simp; omega
theorem ev_pre {w : Int} {y n : Nat} (hn : n ≤ y) (hy : 1 ≤ y) : ((evL w y).take n).sum = w * (n : Int) / (y : Int) := by
  have e : (evL w y).take n = (List.range n).map (evE w y) := by
    rw [evL, ← List.map_take, List.take_range, Nat.min_eq_left hn]
  have t := tele (f := fun (j : Nat) => w * (j : Int) / (y : Int)) n
  simp only [Int.natCast_zero, Int.mul_zero, Int.zero_ediv, Int.sub_zero, Int.natCast_add, Int.natCast_one] at t
  rw [e]
  exact t
theorem ev_sum {w : Int} {y : Nat} (hy : 1 ≤ y) : (evL w y).sum = w := by
  have := ev_pre (w := w) (Nat.le_refl y) hy
  rw [List.take_of_length_le (by rw [ev_len]; exact Nat.le_refl _)] at this
  rw [this]
  exact Int.mul_ediv_cancel _ (by omega)
theorem ev_nn {w : Int} {y : Nat} (hw : 0 ≤ w) (hy : 1 ≤ y) : ∀ e ∈ evL w y, 0 ≤ e := fun e he => by
  have : 0 ≤ w / (y : Int) := Int.ediv_nonneg hw (by omega)
  rcases ev_two hy e he with h | h <;> omega
/-! ### a row of wear, looked at -/
structure Wear (w : Int) (ws : List Int) : Prop where
  sum : ws.sum = w
  nn : ∀ e ∈ ws, 0 ≤ e
  ne : ws ≠ []
theorem ev_wear {w : Int} {y : Nat} (hw : 0 ≤ w) (hy : 1 ≤ y) : Wear w (evL w y) := ⟨ev_sum hy, ev_nn hw hy, fun z => by have := ev_len w y; rw [z] at this; simp at this; omega⟩
def lftL : Int → List Int → List Int
  | _, [] => []
  | l, o :: os => (l - o) :: lftL (l - o) os
theorem lft_len : ∀ (ws : List Int) (l : Int), (lftL l ws).length = ws.length
  | [], _ => rfl
  | o :: os, l => by rw [lftL, List.length_cons, lft_len os, List.length_cons]
theorem lft_last : ∀ (ws : List Int) (l : Int), ws ≠ [] → (lftL l ws)[ws.length - 1]? = some (l - ws.sum)
  | [], _, h => absurd rfl h
  | [o], l, _ => by simp [lftL]
  | o :: o2 :: os, l, _ => by
    have := lft_last (o2 :: os) (l - o) (by simp)
    rw [lftL, List.length_cons, List.sum_cons, show (o2 :: os).length + 1 - 1 = ((o2 :: os).length - 1) + 1 by simp, List.getElem?_cons_succ, this]
    congr 1
    omega
theorem left_loop {x0 x1 : Option D} {S : Store} : ∀ (ws : List Int) (l : Int) (acc : List D) (u : Option D), acc.length + ws.length < 1000000 →
    ∃ v3 v4, forD grdT (gN 4) (dSeq (dAug 3 isubD (dVar 4)) (dDrop (dApp (dVar 2) (dVar 3)))) (ws.map D.int) [x0, x1, some (.obj S.length), some (.int l), u] (S ++ [.lst acc]) = .nx [x0, x1, some (.obj S.length), v3, v4] (S ++ [.lst (acc ++ (lftL l ws).map D.int)])
  | [], l, acc, u, h => ⟨some (.int l), u, by simp [lftL]⟩
  | o :: os, l, acc, u, h => by
    rw [List.length_cons] at h
    obtain ⟨v3, v4, z⟩ := left_loop (x0 := x0) (x1 := x1) (S := S) os (l - o) (acc ++ [.int (l - o)]) (some (.int o)) (by simp; omega)
    refine ⟨v3, v4, ?_⟩
    have ha : acc.length < 1000000 := by omega
    have e : acc ++ (lftL l (o :: os)).map D.int = (acc ++ [D.int (l - o)]) ++ (lftL (l - o) os).map D.int := by rw [lftL, List.map_cons, List.append_assoc, List.singleton_append]
    rw [e, ← z]
    simp -implicitDefEqProofs [ha]
theorem left_ok {ws : List Int} {l : Int} (h : ws.length < 1000) (S : Store) : M_left_after [.int l, .tup (ws.map D.int)] S = .ok (.tup ((lftL l ws).map D.int)) (S ++ [.lst ((lftL l ws).map D.int)]) := by
  obtain ⟨v3, v4, z⟩ := left_loop (x0 := some (.int l)) (x1 := some (.tup (ws.map D.int))) (S := S) ws l [] none (by simp; omega)
  simp -implicitDefEqProofs only [M_left_after, e_runD, f_left_after]
  simp -implicitDefEqProofs [startD, z]
end Pr
set_option Elab.async false
set_option linter.all false
set_option maxRecDepth 100000
set_option maxHeartbeats 1000000
namespace Pr
open PySem PySem.Spec PyProof.Rows L2 DL
/-! ### rounded half up -/
def hu (n d : Int) : Int := (2 * n + d) / (2 * d)
theorem cross {q : Rat} {a b : Int} (hb : b ≠ 0) (e : q = Rat.divInt a b) : q.num * b = a * q.den := by
  have e1 : Rat.divInt q.num q.den = Rat.divInt a b := by rw [Rat.num_divInt_den]; exact e
  exact (Rat.divInt_eq_divInt_iff (by have := q.den_nz; omega) hb).mp e1
theorem hu_same {n d m b : Int} (hd : 0 < d) (hb : 0 < b) (e : n * b = m * d) : hu n d = hu m b := by
  unfold hu
  have e1 : (2 * n + d) / (2 * d) = ((2 * n + d) * b) / (2 * d * b) := (Int.mul_ediv_mul_of_pos_left _ _ hb).symm
  have e2 : (2 * n + d) * b = (2 * m + b) * d := by rw [Int.add_mul, Int.add_mul, Int.mul_assoc 2 n, e, Int.mul_assoc, Int.mul_comm d b]
  have e3 : 2 * d * b = 2 * b * d := by rw [Int.mul_assoc, Int.mul_comm d b, Int.mul_assoc]
  rw [e1, e2, e3, Int.mul_ediv_mul_of_pos_left _ _ hd]
theorem rounded_part {t b : Int} (hb : 0 < b) (ht : 0 ≤ t) (h1 : t.natAbs < 2 ^ 90) (h2 : b.natAbs < 2 ^ 90) (S : Store) : M_rounded [pt (Rat.divInt t b), .str "half up"] S = .ok (.int (hu t b)) S := by
  have sz := divInt_sz (n := 90) (show b ≠ 0 by omega) h1 h2
  have q0 : 0 ≤ (Rat.divInt t b).num := by
    rw [Rat.num_divInt, Int.sign_eq_one_of_pos hb, Int.one_mul]
    exact Int.ediv_nonneg ht (by omega)
  have r := rounded_half q0 (sz.up (by decide)) S
  rw [r]
  have c := cross (show b ≠ 0 by omega) (rfl : Rat.divInt t b = Rat.divInt t b)
  have p : (0 : Int) < ((Rat.divInt t b).den : Int) := by have := (Rat.divInt t b).den_nz; omega
  have := hu_same p hb c
  unfold hu at this ⊢
  rw [this]
theorem part_small {t b : Int} (hb : 0 < b) (h1 : t.natAbs < 2 ^ 90) (h2 : b.natAbs < 2 ^ 90) (S : Store) : M_part [.int t, .int b] S = .ok (pt (Rat.divInt t b)) S :=
  M_part_ok (by omega) (lt_up h1 (by decide)) (lt_up h2 (by decide)) S
theorem times_ten {a m : Int} (h1 : a.natAbs < 2 ^ 40) (hm : 0 ≤ m) (hm2 : m ≤ 9) (S : Store) : M_times [.tup [.int a, .int 1], .tup [.int m, .int 10]] S = .ok (pt (Rat.divInt (a * m) 10)) S := by
  have b : (a * m).natAbs < 2 ^ 90 := by
    have := mul_lt_pow (a := a.natAbs) (b := m.natAbs) (m := 40) (n := 4) h1 (by omega)
    rw [← Int.natAbs_mul] at this
    exact lt_up this (by decide)
  have a1 : a.natAbs < 18446744073709551616 := by omega
  have p := part_small (t := a * m) (b := 10) (by decide) b (by decide) S
  simp -implicitDefEqProofs only [M_times, e_runD, f_times]
  simp -implicitDefEqProofs [startD, mulD_l a1, mulD_l (show (1 : Int).natAbs < 18446744073709551616 by decide), p]
theorem hu_nn {n d : Int} (hn : 0 ≤ n) (hd : 0 < d) : 0 ≤ hu n d := Int.ediv_nonneg (by omega) (by omega)
theorem hu_mono {a b d : Int} (h : a ≤ b) (hd : 0 < d) : hu a d ≤ hu b d := Int.ediv_le_ediv (by omega) (by omega)
/-! ### falling wear -/
def fallO (r m : Int) (n : Nat) (l : Int) : Int := max 0 (min (if n = 0 then l - r else hu (l * m) 10) (l - r))
def fallL (r m : Int) : Nat → Int → List Int
  | 0, _ => []
  | n + 1, l => fallO r m n l :: fallL r m n (l - fallO r m n l)
theorem fall_nn (r m : Int) : ∀ (n : Nat) (l : Int), ∀ e ∈ fallL r m n l, 0 ≤ e
  | 0, _ => fun e he => nomatch he
  | n + 1, l => fun e he => by
    rcases List.mem_cons.mp he with rfl | he
    · exact Int.le_max_left _ _
    · exact fall_nn r m n _ e he
theorem fall_sum {r m : Int} : ∀ (n : Nat) (l : Int), r ≤ l → (fallL r m (n + 1) l).sum = l - r
  | 0, l, h => by simp [fallL, fallO]; omega
  | n + 1, l, h => by
    have h2 : r ≤ l - fallO r m (n + 1) l := by unfold fallO; omega
    have ih := fall_sum (r := r) (m := m) n _ h2
    rw [fallL, List.sum_cons, ih]
    omega
theorem fall_len (r m : Int) : ∀ (n : Nat) (l : Int), (fallL r m n l).length = n
  | 0, _ => rfl
  | n + 1, l => by rw [fallL, List.length_cons, fall_len r m n]
def fallB : DS := (dSeq (dAsg (dIf (dB (dOp ltD (dVar 6) (dOp subD (dVar 2) (dC (.int 1))))) (dCall 2 M_rounded (daCons (dCall 2 M_times (daCons (dTup (daCons (dVar 5) (daCons (dC (.int 1)) daNil))) (daCons (dVar 3) daNil))) (daCons (dC (.str "half up")) daNil))) (dOp subD (dVar 5) (dVar 1))) (gN 7))
  (dSeq (dAsg (dBlt maxD (daCons (dC (.int 0)) (daCons (dBlt minD (daCons (dVar 7) (daCons (dOp subD (dVar 5) (dVar 1)) daNil))) daNil))) (gN 7))
  (dSeq (dDrop (dApp (dVar 4) (dVar 7)))
  (dAug 5 isubD (dVar 7)))))
section
variable {c r m : Int} {y : Nat} {S : Store} (h0 : 0 ≤ r) (hm : 0 < m) (hm2 : m ≤ 9)
include h0 hm hm2
theorem mul_b {l : Int} (hl : 0 ≤ l) (hl2 : l < 2 ^ 40) : 0 ≤ l * m ∧ (l * m).natAbs < 2 ^ 90 := by
  refine ⟨Int.mul_nonneg hl (by omega), ?_⟩
  have := mul_lt_pow (a := l.natAbs) (b := m.natAbs) (m := 40) (n := 4) (by omega) (by omega)
  rw [← Int.natAbs_mul] at this
  exact lt_up this (by decide)
theorem fall_loop {x0 : Option D} : ∀ (n k : Nat) (l : Int) (acc : List D) (u6 u7 : Option D), k + n = y → y ≤ 1000 → acc.length + n < 1000000 → r ≤ l → l < 2 ^ 40 →
    ∃ v5 v6 v7, forD grdT (gN 6) fallB (rngD (k : Int) 1 n) [x0, some (.int r), some (.int (y : Int)), some (.tup [.int m, .int 10]), some (.obj S.length), some (.int l), u6, u7] (S ++ [.lst acc]) = .nx [x0, some (.int r), some (.int (y : Int)), some (.tup [.int m, .int 10]), some (.obj S.length), v5, v6, v7] (S ++ [.lst (acc ++ (fallL r m n l).map D.int)])
  | 0, k, l, acc, u6, u7, hk, hy, ha, hl, hl2 => ⟨some (.int l), u6, u7, by simp [fallL]⟩
  | n + 1, k, l, acc, u6, u7, hk, hy, ha, hl, hl2 => by
    have h2 : r ≤ l - fallO r m n l := by unfold fallO; omega
    have h3 : 0 ≤ fallO r m n l := Int.le_max_left _ _
    obtain ⟨v5, v6, v7, z⟩ := fall_loop n (k + 1) (l - fallO r m n l) (acc ++ [.int (fallO r m n l)]) (some (.int (k : Int))) (some (.int (fallO r m n l))) (by omega) hy (by simp; omega) h2 (by omega)
    refine ⟨v5, v6, v7, ?_⟩
    have e : acc ++ (fallL r m (n + 1) l).map D.int = (acc ++ [D.int (fallO r m n l)]) ++ (fallL r m n (l - fallO r m n l)).map D.int := by rw [fallL, List.map_cons, List.append_assoc, List.singleton_append]
    have ha2 : acc.length < 1000000 := by omega
    have t := times_ten (a := l) (m := m) (by omega) (by omega) hm2 (S ++ [.lst acc])
    have mb := mul_b h0 hm hm2 (l := l) (by omega) hl2
    have rp := rounded_part (t := l * m) (b := 10) (by decide) mb.1 mb.2 (by decide) (S ++ [.lst acc])
    rw [rngD_succ, e]
    rw [show ((k + 1 : Nat) : Int) = (k : Int) + 1 by omega] at z
    rw [← z]
    by_cases hn : n = 0
    · subst hn
      have c1 : ¬ (k : Int) < (y : Int) - 1 := by omega
      simp -implicitDefEqProofs [fallB, c1, ha2, fallO]
    · have c1 : (k : Int) < (y : Int) - 1 := by omega
      simp -implicitDefEqProofs [fallB, c1, ha2, fallO, t, rp, hn]
theorem falling_ok (hrc : r ≤ c) (hc : c < 2 ^ 40) (hy : 1 ≤ y) (hy2 : y ≤ 100) : ∃ T, M_falling [.int c, .int r, .int (y : Int), .tup [.int m, .int 10]] S = .ok (.tup ((fallL r m y c).map D.int)) (S ++ T) := by
  obtain ⟨v5, v6, v7, z⟩ := fall_loop (y := y) (S := S) h0 hm hm2 (x0 := some (.int c)) y 0 c [] none none (by omega) (by omega) (by simp; omega) hrc hc
  have hr : -1000000000000 ≤ (y : Int) ∧ (y : Int) ≤ 1000000000000 := by omega
  have c1 : m < 10 := by omega
  unfold fallB at z
  refine ⟨[.lst ((fallL r m y c).map D.int)], ?_⟩
  simp -implicitDefEqProofs only [M_falling, e_runD, f_falling]
  simp -implicitDefEqProofs [startD, check_ok h0 hrc hy, hr, hm, c1]
  erw [z]
  simp -implicitDefEqProofs
end
theorem fall_wear {c r m : Int} {y : Nat} (hrc : r ≤ c) (hy : 1 ≤ y) : Wear (c - r) (fallL r m y c) := by
  obtain ⟨n, rfl⟩ : ∃ n, y = n + 1 := ⟨y - 1, by omega⟩
  exact ⟨fall_sum n c hrc, fall_nn r m _ _, fun z => by rw [fallL] at z; cases z⟩
/-! ### wear by digits -/
def dgS (y : Nat) : Nat → Int
  | 0 => 0
  | k + 1 => dgS y k + (y : Int) - (k : Int)
def dgE (w s : Int) (y k : Nat) : Int := w * dgS y (k + 1) / s - w * dgS y k / s
def dgL (w s : Int) (y : Nat) (k : Nat) : Nat → List Int
  | 0 => []
  | n + 1 => dgE w s y k :: dgL w s y (k + 1) n
def dgB : DS := (dSeq (dAsg (dOp subD (dOp addD (dVar 5) (dVar 2)) (dVar 7)) (gN 8))
  (dSeq (dDrop (dApp (dVar 6) (dOp subD (dOp fdivD (dOp mulD (dVar 3) (dVar 8)) (dVar 4)) (dOp fdivD (dOp mulD (dVar 3) (dVar 5)) (dVar 4)))))
  (dAsg (dVar 8) (gN 5))))
theorem dg_loop {w s : Int} {y : Nat} {x0 x1 : Option D} {S : Store} (hw : w.natAbs < 18446744073709551616) (hs : 0 < s) (hs2 : s.natAbs < 18446744073709551616) : ∀ (n k : Nat) (acc : List D) (u7 u8 : Option D), acc.length + n < 1000000 →
    ∃ v5 v7 v8, forD grdT (gN 7) dgB (rngD (k : Int) 1 n) [x0, x1, some (.int (y : Int)), some (.int w), some (.int s), some (.int (dgS y k)), some (.obj S.length), u7, u8] (S ++ [.lst acc]) = .nx [x0, x1, some (.int (y : Int)), some (.int w), some (.int s), v5, some (.obj S.length), v7, v8] (S ++ [.lst (acc ++ (dgL w s y k n).map D.int)])
  | 0, k, acc, u7, u8, ha => ⟨some (.int (dgS y k)), u7, u8, by simp [dgL]⟩
  | n + 1, k, acc, u7, u8, ha => by
    obtain ⟨v5, v7, v8, z⟩ := dg_loop (w := w) (s := s) (y := y) (x0 := x0) (x1 := x1) (S := S) hw hs hs2 n (k + 1) (acc ++ [.int (dgE w s y k)]) (some (.int (k : Int))) (some (.int (dgS y (k + 1)))) (by simp; omega)
    refine ⟨v5, v7, v8, ?_⟩
    have e : acc ++ (dgL w s y k (n + 1)).map D.int = (acc ++ [D.int (dgE w s y k)]) ++ (dgL w s y (k + 1) n).map D.int := by rw [dgL, List.map_cons, List.append_assoc, List.singleton_append]
    have ha2 : acc.length < 1000000 := by omega
    rw [rngD_succ, e]
    rw [show ((k + 1 : Nat) : Int) = (k : Int) + 1 by omega] at z
    rw [← z]
    simp -implicitDefEqProofs [dgB, ha2, mulD_l hw, fdiv_small hs hs2, dgE, dgS]
end Pr
set_option Elab.async false
set_option linter.all false
set_option maxRecDepth 100000
set_option maxHeartbeats 1000000
namespace Pr
open PySem PySem.Spec PyProof.Rows L2 DL
/-! ### wear by digits, whole -/
theorem dg_pre {w s : Int} {y : Nat} : ∀ (n k j : Nat), j ≤ n → ((dgL w s y k n).take j).sum = w * dgS y (k + j) / s - w * dgS y k / s
  | n, k, 0, h => by simp
  | 0, k, j + 1, h => by omega
  | n + 1, k, j + 1, h => by
    rw [dgL, List.take_succ_cons, List.sum_cons, dg_pre n (k + 1) j (by omega), dgE, show k + 1 + j = k + (j + 1) by omega]
    omega
theorem dg_len {w s : Int} {y : Nat} : ∀ (n k : Nat), (dgL w s y k n).length = n
  | 0, k => rfl
  | n + 1, k => by rw [dgL, List.length_cons, dg_len n]
theorem dgS_mono {y : Nat} : ∀ k, k ≤ y → dgS y k ≤ dgS y (k + 1) := fun k hk => by rw [dgS]; omega
theorem dg_nn {w s : Int} {y : Nat} (hw : 0 ≤ w) (hs : 0 < s) : ∀ (n k : Nat), k + n ≤ y → ∀ e ∈ dgL w s y k n, 0 ≤ e
  | 0, k, h => fun e he => nomatch he
  | n + 1, k, h => fun e he => by
    rcases List.mem_cons.mp he with rfl | he
    · have h1 : w * dgS y k ≤ w * dgS y (k + 1) := Int.mul_le_mul_of_nonneg_left (dgS_mono k (by omega)) hw
      have := Int.ediv_le_ediv hs h1
      unfold dgE
      omega
    · exact dg_nn hw hs n (k + 1) (by omega) e he
def dgT (y : Nat) : Int := (y : Int) * ((y : Int) + 1) / 2
theorem dg_facts {y : Nat} (h1 : 1 ≤ y) (h2 : y ≤ 6) : 0 < dgT y ∧ dgT y ≤ 21 ∧ dgS y y = dgT y := by
  have : y = 1 ∨ y = 2 ∨ y = 3 ∨ y = 4 ∨ y = 5 ∨ y = 6 := by omega
  rcases this with rfl | rfl | rfl | rfl | rfl | rfl <;> decide
theorem dg_slow {w : Int} {y k : Nat} (hw : 0 ≤ w) (h1 : 1 ≤ y) (h2 : y ≤ 6) (hk : k ≤ y) : w * (k : Int) / (y : Int) ≤ w * dgS y k / dgT y := by
  have a : y = 1 ∨ y = 2 ∨ y = 3 ∨ y = 4 ∨ y = 5 ∨ y = 6 := by omega
  have b : k = 0 ∨ k = 1 ∨ k = 2 ∨ k = 3 ∨ k = 4 ∨ k = 5 ∨ k = 6 := by omega
  rcases a with rfl | rfl | rfl | rfl | rfl | rfl <;> rcases b with rfl | rfl | rfl | rfl | rfl | rfl | rfl <;> (try omega) <;> (simp only [dgS, dgT]; omega)
theorem dg_wear {w : Int} {y : Nat} (hw : 0 ≤ w) (h1 : 1 ≤ y) (h2 : y ≤ 6) : Wear w (dgL w (dgT y) y 0 y) := by
  obtain ⟨a, b, c⟩ := dg_facts h1 h2
  refine ⟨?_, dg_nn hw a y 0 (by omega), fun z => by have := dg_len (w := w) (s := dgT y) (y := y) y 0; rw [z] at this; simp at this; omega⟩
  have := dg_pre (w := w) (s := dgT y) (y := y) y 0 y (Nat.le_refl _)
  rw [List.take_of_length_le (by rw [dg_len]; exact Nat.le_refl _), Nat.zero_add, c, Int.mul_ediv_cancel _ (by omega)] at this
  rw [this]
  simp [dgS]
section
variable {c r : Int} {y : Nat} {S : Store} (h0 : 0 ≤ r) (hrc : r ≤ c) (hc : c < 2 ^ 40) (hy : 1 ≤ y) (hy2 : y ≤ 6)
include h0 hrc hc hy hy2
theorem digits_ok : ∃ T, M_by_digits [.int c, .int r, .int (y : Int)] S = .ok (.tup ((dgL (c - r) (dgT y) y 0 y).map D.int)) (S ++ T) := by
  obtain ⟨f1, f2, f3⟩ := dg_facts hy hy2
  have hw : (c - r).natAbs < 18446744073709551616 := by omega
  obtain ⟨v5, v7, v8, z⟩ := dg_loop (w := c - r) (s := dgT y) (y := y) (x0 := some (.int c)) (x1 := some (.int r)) (S := S) hw f1 (by omega) y 0 [] none none (by simp; omega)
  have hr : -1000000000000 ≤ (y : Int) ∧ (y : Int) ≤ 1000000000000 := by omega
  have hy3 : ((y : Int)).natAbs < 18446744073709551616 := by omega
  unfold dgB dgT at z
  simp only [dgS] at z
  refine ⟨[.lst ((dgL (c - r) (dgT y) y 0 y).map D.int)], ?_⟩
  unfold dgT
  simp -implicitDefEqProofs only [M_by_digits, e_runD, f_by_digits]
  simp -implicitDefEqProofs [startD, check_ok h0 hrc hy, hr, mulD_l hy3, fdiv_small (show (0 : Int) < 2 by decide) (show (2 : Int).natAbs < 18446744073709551616 by decide)]
  erw [z]
  simp -implicitDefEqProofs
end
/-! ### wear by use -/
def useL (w : Int) : List Int := [w * 5 / 12 - w * 0 / 12, w * 10 / 12 - w * 5 / 12, w * 12 / 12 - w * 10 / 12]
theorem use_wear {w : Int} (hw : 0 ≤ w) : Wear w (useL w) := by
  refine ⟨by simp [useL]; omega, fun e he => ?_, fun z => by cases z⟩
  simp [useL] at he
  omega
theorem use_ok {c r : Int} {n : Nat} {S : Store} (h0 : 0 ≤ r) (hrc : r ≤ c) (hc : c < 2 ^ 40) (h : lstAt S n = some [.int 5, .int 5, .int 5]) : ∃ T, M_by_use [.int c, .int r, .obj n, .int 12] S = .ok (.tup ((useL (c - r)).map D.int)) (S ++ T) := by
  have hk : ∀ T, lstAt (S ++ T) n = some [.int 5, .int 5, .int 5] := fun T => lstAt_keep _ _ h
  have hw : (c - r).natAbs < 18446744073709551616 := by omega
  have d := fun (i : Int) (S : Store) => fdiv_small (i := i) (j := 12) (S := S) (by decide) (by decide)
  refine ⟨[.lst ((useL (c - r)).map D.int)], ?_⟩
  simp -implicitDefEqProofs only [M_by_use, e_runD, f_by_use]
  simp -implicitDefEqProofs [startD, h0, hrc, h, hk, mulD_l hw, d, useL, show min (12 : Int) 5 = 5 from by decide, show min (12 : Int) 10 = 10 from by decide, show min (12 : Int) 15 = 12 from by decide]
/-! ### wear that is switched -/
def swL (r m : Int) : Nat → Int → List Int
  | 0, _ => []
  | n + 1, l => if hu (l * m) 10 ≤ (l - r) / ((n : Int) + 1) ∨ n = 0 then evL (l - r) (n + 1) else min (hu (l * m) 10) (l - r) :: swL r m n (l - min (hu (l * m) 10) (l - r))
def swB : DS := (dSeq (dAsg (dCall 2 M_rounded (daCons (dCall 2 M_times (daCons (dTup (daCons (dVar 5) (daCons (dC (.int 1)) daNil))) (daCons (dVar 3) daNil))) (daCons (dC (.str "half up")) daNil))) (gN 7))
  (dSeq (dAsg (dIf (dB (dOp gtD (dVar 5) (dVar 1))) (dOp ixD (dCall 3 M_even (daCons (dVar 5) (daCons (dVar 1) (daCons (dOp subD (dVar 2) (dVar 6)) daNil)))) (dC (.int 0))) (dC (.int 0))) (gN 8))
  (dSeq (dIfS (dOrT (dB (dOp leD (dVar 7) (dVar 8))) (dB (dOp eqD (dVar 6) (dOp subD (dVar 2) (dC (.int 1))))))
  (dSeq (dDrop (dLM1 extD (dVar 4) (dIf (dB (dOp gtD (dVar 5) (dVar 1))) (dCall 3 M_even (daCons (dVar 5) (daCons (dVar 1) (daCons (dOp subD (dVar 2) (dVar 6)) daNil)))) (dOp mulD (dTup (daCons (dC (.int 0)) daNil)) (dOp subD (dVar 2) (dVar 6))))))
  dBrk)
  dNext)
  (dSeq (dAsg (dBlt minD (daCons (dVar 7) (daCons (dOp subD (dVar 5) (dVar 1)) daNil))) (gN 9))
  (dSeq (dDrop (dApp (dVar 4) (dVar 9)))
  (dAug 5 isubD (dVar 9)))))))
theorem extD_tup (S : Store) (xs ys : List D) : extD S xs (.tup ys) = if xs.length + ys.length ≤ 1000000 then some (.non, xs ++ ys) else none := rfl
theorem mulD_zeros {k : Int} {n : Nat} (e : k = (n : Int) + 1) (hn : n < 900) (S : Store) : mulD (.tup [.int 0]) (.int k) S = some (.tup ((evL 0 (n + 1)).map D.int), S) := by
  have c : k ≤ 1000 ∧ [D.int 0].length ≤ 1000 ∧ [D.int 0] ≠ [] ∧ -1000 ≤ k := ⟨by omega, by simp, by simp, by omega⟩
  have e2 : (List.replicate k.toNat [D.int 0]).flatten = (evL 0 (n + 1)).map D.int := by
    rw [show k.toNat = n + 1 by omega]
    have e3 : evL 0 (n + 1) = List.replicate (n + 1) 0 := by
      rw [List.eq_replicate_iff]
      refine ⟨ev_len _ _, fun b hb => ?_⟩
      obtain ⟨j, _, rfl⟩ := List.mem_map.mp hb
      simp [evE]
    rw [e3, List.map_replicate]
    generalize n + 1 = k
    induction k with
    | zero => rfl
    | succ k ih => rw [List.replicate_succ, List.flatten_cons, ih, List.replicate_succ]; rfl
  unfold mulD
  dsimp only
  rw [if_pos c, e2]
theorem ev_head (w : Int) (n : Nat) : (evL w (n + 1))[0]? = some (w / ((n : Int) + 1)) := by
  simp [evL, evE]
theorem ev_head2 (w : Int) (n : Nat) (h : 0 < (evL w (n + 1)).length) : (evL w (n + 1))[0] = w / ((n : Int) + 1) := by
  simp [evL, evE]
section
variable {c r m : Int} {y : Nat} {S : Store} (h0 : 0 ≤ r) (hm : 0 < m) (hm2 : m ≤ 9) (hy : y ≤ 100)
include h0 hm hm2 hy
theorem sw_loop {x0 : Option D} : ∀ (n k : Nat) (l : Int) (acc : List D) (T : Store) (u6 u7 u8 u9 : Option D), k + n = y → acc.length + n < 1000 → r ≤ l → l < 2 ^ 40 →
    ∃ v5 v6 v7 v8 v9 T2, forD grdT (gN 6) swB (rngD (k : Int) 1 n) [x0, some (.int r), some (.int (y : Int)), some (.tup [.int m, .int 10]), some (.obj S.length), some (.int l), u6, u7, u8, u9] (S ++ .lst acc :: T) = .nx [x0, some (.int r), some (.int (y : Int)), some (.tup [.int m, .int 10]), some (.obj S.length), v5, v6, v7, v8, v9] (S ++ .lst (acc ++ (swL r m n l).map D.int) :: T2)
  | 0, k, l, acc, T, u6, u7, u8, u9, hk, ha, hl, hl2 => ⟨some (.int l), u6, u7, u8, u9, T, by simp [swL]⟩
  | n + 1, k, l, acc, T, u6, u7, u8, u9, hk, ha, hl, hl2 => by
    have mb := mul_b h0 hm hm2 (l := l) (by omega) hl2
    have hnn : 0 ≤ hu (l * m) 10 := hu_nn mb.1 (by decide)
    have ek : (y : Int) - (k : Int) = (n : Int) + 1 := by omega
    have ek2 : ((k : Int) = (y : Int) - 1) ↔ n = 0 := by omega
    have t := fun S => times_ten (a := l) (m := m) (by omega) (by omega) hm2 S
    have rp := fun S => rounded_part (t := l * m) (b := 10) (by decide) mb.1 mb.2 (by decide) S
    have ha2 : acc.length < 1000000 := by omega
    have ev : ∀ S, M_even [.int l, .int r, .int ((n : Int) + 1)] S = .ok (.tup ((evL (l - r) (n + 1)).map D.int)) (S ++ [.lst ((evL (l - r) (n + 1)).map D.int)]) := fun S => by
      have := even_ok (c := l) (r := r) (y := n + 1) h0 hl hl2 (by omega) (by omega) S
      rw [show ((n + 1 : Nat) : Int) = (n : Int) + 1 by omega] at this
      exact this
    have hlen : acc.length + (n + 1) ≤ 1000000 := by omega
    rw [rngD_succ]
    by_cases c2 : hu (l * m) 10 ≤ (l - r) / ((n : Int) + 1) ∨ n = 0
    · rw [swL, if_pos c2]
      by_cases c1 : r < l
      · by_cases c3 : hu (l * m) 10 ≤ (l - r) / ((n : Int) + 1)
        · exact ⟨_, _, _, _, _, _, by simp -implicitDefEqProofs [swB, t, rp, c1, ev, ek, ek2, ev_head, ev_head2, c3, extD_tup, hlen, ev_len]; exact ⟨⟨rfl, rfl, rfl, rfl, rfl⟩, rfl⟩⟩
        · have c4 : n = 0 := c2.resolve_left c3
          exact ⟨_, _, _, _, _, _, by simp -implicitDefEqProofs [swB, t, rp, c1, ev, ek, ek2, ev_head, ev_head2, c3, eq_true c4, extD_tup, hlen, ev_len]; exact ⟨⟨rfl, rfl, rfl, rfl, rfl⟩, rfl⟩⟩
      · have e0 : l - r = 0 := by omega
        have z0 : (l - r) / ((n : Int) + 1) = 0 := by rw [e0]; exact Int.zero_ediv _
        have mz := fun S => mulD_zeros (k := (n : Int) + 1) (n := n) rfl (by omega) S
        rw [e0]
        rw [z0] at c2
        by_cases c3 : hu (l * m) 10 ≤ 0
        · exact ⟨_, _, _, _, _, _, by simp -implicitDefEqProofs [swB, t, rp, c1, ek, ek2, c3, mz, extD_tup, hlen, ev_len]; exact ⟨⟨rfl, rfl, rfl, rfl, rfl⟩, rfl⟩⟩
        · have c4 : n = 0 := c2.resolve_left c3
          exact ⟨_, _, _, _, _, _, by simp -implicitDefEqProofs [swB, t, rp, c1, ek, ek2, c3, eq_true c4, mz, extD_tup, hlen, ev_len]; exact ⟨⟨rfl, rfl, rfl, rfl, rfl⟩, rfl⟩⟩
    · have h2 : r ≤ l - min (hu (l * m) 10) (l - r) := by omega
      have h3 : 0 ≤ min (hu (l * m) 10) (l - r) := by omega
      obtain ⟨c3, c4⟩ := not_or.mp c2
      rw [swL, if_neg c2]
      have e : acc ++ (min (hu (l * m) 10) (l - r) :: swL r m n (l - min (hu (l * m) 10) (l - r))).map D.int = (acc ++ [D.int (min (hu (l * m) 10) (l - r))]) ++ (swL r m n (l - min (hu (l * m) 10) (l - r))).map D.int := by rw [List.map_cons, List.append_assoc, List.singleton_append]
      rw [e]
      by_cases c1 : r < l
      · obtain ⟨v5, v6, v7, v8, v9, T2, z⟩ := sw_loop (x0 := x0) n (k + 1) (l - min (hu (l * m) 10) (l - r)) (acc ++ [D.int (min (hu (l * m) 10) (l - r))]) (T ++ [.lst ((evL (l - r) (n + 1)).map D.int)]) (some (.int (k : Int))) (some (.int (hu (l * m) 10))) (some (.int ((l - r) / ((n : Int) + 1)))) (some (.int (min (hu (l * m) 10) (l - r)))) (by omega) (by simp; omega) h2 (by omega)
        refine ⟨v5, v6, v7, v8, v9, T2, ?_⟩
        rw [show ((k + 1 : Nat) : Int) = (k : Int) + 1 by omega] at z
        rw [← z]
        simp -implicitDefEqProofs [swB, t, rp, c1, ev, ek, ek2, ev_head, ev_head2, c3, c4, ha2]
      · have e0 : l - r = 0 := by omega
        have z0 : (l - r) / ((n : Int) + 1) = 0 := by rw [e0]; exact Int.zero_ediv _
        rw [z0] at c3
        obtain ⟨v5, v6, v7, v8, v9, T2, z⟩ := sw_loop (x0 := x0) n (k + 1) (l - min (hu (l * m) 10) (l - r)) (acc ++ [D.int (min (hu (l * m) 10) (l - r))]) T (some (.int (k : Int))) (some (.int (hu (l * m) 10))) (some (.int 0)) (some (.int (min (hu (l * m) 10) (l - r)))) (by omega) (by simp; omega) h2 (by omega)
        refine ⟨v5, v6, v7, v8, v9, T2, ?_⟩
        rw [show ((k + 1 : Nat) : Int) = (k : Int) + 1 by omega] at z
        rw [← z]
        simp -implicitDefEqProofs [swB, t, rp, c1, ek, ek2, c3, c4, ha2]
theorem switched_ok (hrc : r ≤ c) (hc : c < 2 ^ 40) (hy1 : 1 ≤ y) : ∃ T, M_switched [.int c, .int r, .int (y : Int), .tup [.int m, .int 10]] S = .ok (.tup ((swL r m y c).map D.int)) (S ++ T) := by
  obtain ⟨v5, v6, v7, v8, v9, T2, z⟩ := sw_loop (y := y) (S := S) h0 hm hm2 hy (x0 := some (.int c)) y 0 c [] [] none none none none (by omega) (by simp; omega) hrc hc
  have hr : -1000000000000 ≤ (y : Int) ∧ (y : Int) ≤ 1000000000000 := by omega
  unfold swB at z
  refine ⟨.lst ((swL r m y c).map D.int) :: T2, ?_⟩
  simp -implicitDefEqProofs only [M_switched, e_runD, f_switched]
  simp -implicitDefEqProofs [startD, check_ok h0 hrc hy1, hr]
  erw [z]
  simp -implicitDefEqProofs
end
/-! plain facts -/
theorem sw_sum {r m : Int} (hr : 0 ≤ r) (hm : 0 ≤ m) : ∀ (n : Nat) (l : Int), r ≤ l → (swL r m (n + 1) l).sum = l - r
  | 0, l, h => by rw [swL, if_pos (Or.inr rfl)]; exact ev_sum (by omega)
  | n + 1, l, h => by
    rw [swL]
    split
    · exact ev_sum (by omega)
    · have mb : 0 ≤ l * m := Int.mul_nonneg (by omega) hm
      have := hu_nn (n := l * m) (d := 10) mb (by decide)
      rw [List.sum_cons, sw_sum hr hm n _ (by omega)]
      omega
theorem sw_nn {r m : Int} (hr : 0 ≤ r) (hm : 0 ≤ m) : ∀ (n : Nat) (l : Int), r ≤ l → ∀ e ∈ swL r m n l, 0 ≤ e
  | 0, l, h => fun e he => nomatch he
  | n + 1, l, h => fun e he => by
    rw [swL] at he
    have mb : 0 ≤ l * m := Int.mul_nonneg (by omega) hm
    have := hu_nn (n := l * m) (d := 10) mb (by decide)
    split at he
    · exact ev_nn (by omega) (by omega) e he
    · rcases List.mem_cons.mp he with rfl | he
      · omega
      · exact sw_nn hr hm n _ (by omega) e he
theorem sw_wear {c r m : Int} {y : Nat} (hr : 0 ≤ r) (hm : 0 ≤ m) (hrc : r ≤ c) (hy : 1 ≤ y) : Wear (c - r) (swL r m y c) := by
  obtain ⟨n, rfl⟩ : ∃ n, y = n + 1 := ⟨y - 1, by omega⟩
  refine ⟨sw_sum hr hm n c hrc, sw_nn hr hm _ _ hrc, fun z => ?_⟩
  rw [swL] at z
  split at z
  · have := ev_len (c - r) (n + 1); rw [z] at this; simp at this
  · cases z
/-- no one is more than one past the one ahead -/
def Tame : List Int → Prop
  | [] => True
  | [_] => True
  | a :: b :: t => b ≤ a + 1 ∧ Tame (b :: t)
theorem tame_ev {q : Int} : ∀ (l : List Int), (∀ e ∈ l, e = q ∨ e = q + 1) → Tame l
  | [], _ => trivial
  | [_], _ => trivial
  | a :: b :: t, h => ⟨by
      have h1 := h a List.mem_cons_self
      have h2 := h b (List.mem_cons_of_mem _ List.mem_cons_self)
      omega, tame_ev (b :: t) fun e he => h e (List.mem_cons_of_mem _ he)⟩
theorem tame_cons {a : Int} {l : List Int} (h : Tame l) (hh : ∀ b, l.head? = some b → b ≤ a + 1) : Tame (a :: l) := by
  cases l with
  | nil => trivial
  | cons b t => exact ⟨hh b rfl, h⟩
theorem tame_sw {r m : Int} (hr : 0 ≤ r) (hm : 0 ≤ m) : ∀ (n : Nat) (l : Int), r ≤ l → Tame (swL r m n l)
  | 0, l, h => trivial
  | n + 1, l, h => by
    rw [swL]
    have mb : 0 ≤ l * m := Int.mul_nonneg (by omega) hm
    have hh := hu_nn (n := l * m) (d := 10) mb (by decide)
    split
    · exact tame_ev (q := (l - r) / ((n + 1 : Nat) : Int)) _ fun e he => ev_two (by omega) e he
    · rename_i c
      obtain ⟨c1, c2⟩ := not_or.mp c
      refine tame_cons (tame_sw hr hm n _ (by omega)) fun b hb => ?_
      obtain ⟨n, rfl⟩ : ∃ k, n = k + 1 := ⟨n - 1, by omega⟩
      have l2 : l - min (hu (l * m) 10) (l - r) ≤ l := by omega
      have mono := hu_mono (d := 10) (Int.mul_le_mul_of_nonneg_right l2 hm) (by decide)
      rw [swL] at hb
      split at hb
      · have hb2 : b ∈ evL (l - min (hu (l * m) 10) (l - r) - r) (n + 1) := List.mem_of_mem_head? (by rw [hb]; rfl)
        have e2 := ev_two (by omega) b hb2
        have key : (l - min (hu (l * m) 10) (l - r) - r) / ((n + 1 : Nat) : Int) ≤ min (hu (l * m) 10) (l - r) := by
          have n0 : (0 : Int) < ((n + 1 : Nat) : Int) := by omega
          by_cases q : l - r ≤ hu (l * m) 10
          · rw [Int.min_eq_right q, show l - (l - r) - r = 0 by omega, Int.zero_ediv]; omega
          · rw [Int.min_eq_left (by omega)]
            have q2 := Int.not_le.mp c1
            have q3 : (l - r) < (hu (l * m) 10) * (((n + 1 : Nat) : Int) + 1) := Int.ediv_lt_iff_lt_mul (by omega) |>.mp q2
            have q4 : (hu (l * m) 10) * (((n + 1 : Nat) : Int) + 1) = (hu (l * m) 10) * ((n + 1 : Nat) : Int) + hu (l * m) 10 := by rw [Int.mul_add, Int.mul_one]
            exact Int.le_of_lt (Int.ediv_lt_of_lt_mul n0 (by omega))
        omega
      · simp at hb
        omega
end Pr
set_option Elab.async false
set_option linter.all false
set_option maxRecDepth 100000
set_option maxHeartbeats 1000000
namespace Pr
open PySem PySem.Spec PyProof.Rows L2 DL
/-! ### slices -/
theorem cut_take {α : Type} (xs : List α) (k : Nat) : DL.cutD xs none (some (k : Int)) = xs.take k := by
  unfold DL.cutD
  rw [HT.sIx_nat, HT.sIx_none]
  simp
theorem cut_drop {α : Type} (xs : List α) (k : Nat) : DL.cutD xs (some (k : Int)) none = xs.drop k := by
  unfold DL.cutD
  rw [HT.sIx_nat, HT.sIx_none]
  by_cases h : k ≤ xs.length
  · rw [Nat.min_eq_left h, List.take_of_length_le (by simp)]
  · rw [Nat.min_eq_right (by omega), List.drop_of_length_le (Nat.le_refl _), List.drop_of_length_le (by omega)]; simp
theorem cut_both {α : Type} (xs : List α) {i j : Nat} (h : i ≤ j) (h2 : j ≤ xs.length) : DL.cutD xs (some (i : Int)) (some (j : Int)) = (xs.drop i).take (j - i) := by
  unfold DL.cutD
  rw [HT.sIx_nat, HT.sIx_nat, Nat.min_eq_left (by omega), Nat.min_eq_left (by omega)]
/-! ### a plan of askings, looked at -/
def laGo (a p : Int) : List (Int × Int) → Int → Int → Option Int
  | [], _, pr => some pr
  | (n, c) :: r, t, pr => if t + c < n then none else laGo a p r (t + c - n) (pr + (if c > 0 then a else 0) + p * (t + c - n))
def pairD (z : Int × Int) : D := .tup [.int z.1, .int z.2]
theorem zip_ints : ∀ (ns cs : List Int), zipD (ns.map D.int) (cs.map D.int) = (ns.zip cs).map pairD
  | [], cs => by simp
  | n :: ns, [] => rfl
  | n :: ns, c :: cs => by rw [List.map_cons, List.map_cons, zipD_cons, zip_ints ns cs]; rfl
def laB : DS := (dSeq (dAug 4 iaddD (dVar 7))
  (dSeq (dAug 5 iaddD (dIf (dB (dOp gtD (dVar 7) (dC (.int 0)))) (dVar 1) (dC (.int 0))))
  (dSeq (dIfS (dB (dOp ltD (dVar 4) (dVar 6)))
  (dRaiseI "Short" (dOp subD (dVar 6) (dVar 4)))
  dNext)
  (dSeq (dAug 4 isubD (dVar 6))
  (dAug 5 iaddD (dOp mulD (dVar 2) (dVar 4)))))))
theorem la_loop {a p : Int} {x0 x3 : Option D} {S : Store} {grd : Store → Bool} (hg : grd S = true) (hp : p.natAbs < 18446744073709551616) : ∀ (zs : List (Int × Int)) (t pr : Int) (u6 u7 : Option D),
    (∀ v, laGo a p zs t pr = some v → ∃ v4 v6 v7, forD grd (gT 2 (gsCons (gN 6) (gsCons (gN 7) gsNil))) laB (zs.map pairD) [x0, some (.int a), some (.int p), x3, some (.int t), some (.int pr), u6, u7] S = .nx [x0, some (.int a), some (.int p), x3, v4, some (.int v), v6, v7] S) ∧
    (laGo a p zs t pr = none → ∃ ρ, forD grd (gT 2 (gsCons (gN 6) (gsCons (gN 7) gsNil))) laB (zs.map pairD) [x0, some (.int a), some (.int p), x3, some (.int t), some (.int pr), u6, u7] S = .exn ⟨"Short"⟩ ρ S)
  | [], t, pr, u6, u7 => ⟨fun v h => by
      rw [laGo] at h
      cases h
      exact ⟨some (.int t), u6, u7, by simp [hg]⟩, fun h => by rw [laGo] at h; cases h⟩
  | (n, c) :: zs, t, pr, u6, u7 => by
    obtain ⟨ih1, ih2⟩ := la_loop (x0 := x0) (x3 := x3) (a := a) hg hp zs (t + c - n) (pr + (if c > 0 then a else 0) + p * (t + c - n)) (some (.int n)) (some (.int c))
    refine ⟨fun v h => ?_, fun h => ?_⟩
    · rw [laGo] at h
      split at h
      · cases h
      · rename_i h1
        obtain ⟨v4, v6, v7, z⟩ := ih1 v h
        refine ⟨v4, v6, v7, ?_⟩
        rw [← z]
        by_cases hc : 0 < c
        · simp -implicitDefEqProofs [pairD, laB, hg, h1, hc, mulD_l hp]
        · simp -implicitDefEqProofs [pairD, laB, hg, h1, hc, mulD_l hp]
    · rw [laGo] at h
      split at h
      · rename_i h1
        by_cases hc : 0 < c
        · exact ⟨_, by simp -implicitDefEqProofs [pairD, laB, hg, h1, hc, mulD_l hp]; rfl⟩
        · exact ⟨_, by simp -implicitDefEqProofs [pairD, laB, hg, h1, hc, mulD_l hp]; rfl⟩
      · rename_i h1
        obtain ⟨ρ, z⟩ := ih2 h
        refine ⟨ρ, ?_⟩
        rw [← z]
        by_cases hc : 0 < c
        · simp -implicitDefEqProofs [pairD, laB, hg, h1, hc, mulD_l hp]
        · simp -implicitDefEqProofs [pairD, laB, hg, h1, hc, mulD_l hp]
theorem la_ok {a p v : Int} {q : Nat} {d : D} {ns cs : List Int} {S : Store} (hp : p.natAbs < 18446744073709551616) (hq : lstAt S q = some (ns.map D.int)) (hd : seqAt S d = some (cs.map D.int)) (h : laGo a p (ns.zip cs) 0 0 = some v) : M_look_asked [.obj q, .int a, .int p, d] S = .ok (.int v) S := by
  have hg : (grdL q (ns.map D.int) S && grdQ d (cs.map D.int) S) = true := by
    rw [grdL_iff.mpr hq, grdQ_here hd]; rfl
  obtain ⟨v4, v6, v7, z⟩ := (la_loop (grd := fun S => grdL q (ns.map D.int) S && grdQ d (cs.map D.int) S) (x0 := some (.obj q)) (x3 := some d) (a := a) hg hp (ns.zip cs) 0 0 none none).1 v h
  rw [← zip_ints] at z
  unfold laB at z
  simp -implicitDefEqProofs only [M_look_asked, e_runD, f_look_asked]
  simp -implicitDefEqProofs [startD, hq, hd]
  erw [z]
  rfl
theorem la_short {a p : Int} {q : Nat} {d : D} {ns cs : List Int} {S : Store} (hp : p.natAbs < 18446744073709551616) (hq : lstAt S q = some (ns.map D.int)) (hd : seqAt S d = some (cs.map D.int)) (h : laGo a p (ns.zip cs) 0 0 = none) : M_look_asked [.obj q, .int a, .int p, d] S = .exn ⟨"Short"⟩ S := by
  have hg : (grdL q (ns.map D.int) S && grdQ d (cs.map D.int) S) = true := by
    rw [grdL_iff.mpr hq, grdQ_here hd]; rfl
  obtain ⟨ρ, z⟩ := (la_loop (grd := fun S => grdL q (ns.map D.int) S && grdQ d (cs.map D.int) S) (x0 := some (.obj q)) (x3 := some d) (a := a) hg hp (ns.zip cs) 0 0 none none).2 h
  rw [← zip_ints] at z
  unfold laB at z
  simp -implicitDefEqProofs only [M_look_asked, e_runD, f_look_asked]
  simp -implicitDefEqProofs [startD, hq, hd]
  erw [z]
  rfl
end Pr
set_option Elab.async false
set_option linter.all false
set_option maxRecDepth 100000
set_option maxHeartbeats 1000000
namespace Pr
open PySem PySem.Spec PyProof.Rows L2 DL
/-! ### asked cheapest -/
def keptF (ns : List Int) (s e : Nat) : Int := ((List.range (e - s)).map fun i => (ns[s + i]?).getD 0 * (i : Int)).sum
def cntF (ns : List Int) (s e : Nat) : Int := ((ns.drop s).take (e - s)).sum
/-- what is best for the times ahead of each -/
abbrev Best := List (Option (Int × List Int))
def bD : Option (Int × List Int) → D
  | none => .non
  | some (p, r) => .tup [.int p, .tup (r.map D.int)]
def candF (ns : List Int) (a p : Int) (e s : Nat) (x : Int × List Int) : Int × List Int :=
  (x.1 + (if cntF ns s e > 0 then a else 0) + p * keptF ns s e, x.2 ++ [cntF ns s e] ++ List.replicate (e - s - 1) 0)
def pickF (x : Option (Int × List Int)) (y : Int × List Int) : Int × List Int := match x with
  | none => y
  | some x => if y.1 < x.1 then y else x
def hmStep (ns : List Int) (a p : Int) (e s : Nat) (B : Best) : Best := match B[s]? with
  | some (some x) => B.set e (some (pickF ((B[e]?).getD none) (candF ns a p e s x)))
  | _ => B
def hmB : DS := (dSeq (dAsg (dSumX (diRange2 (dVar 6) (dVar 5)) (gN 11) dYes (dOp mulD (dOp ixD (dVar 0) (dVar 11)) (dOp subD (dVar 11) (dVar 6))) [11]) (gN 7))
  (dSeq (dAsg (dBlt sumLT (daCons (dSl (dVar 0) (dpSome (dVar 6)) (dpSome (dVar 5))) daNil)) (gN 8))
  (dSeq (dAsg (dOp addD (dOp addD (dOp ixD (dOp ixD (dVar 4) (dVar 6)) (dC (.int 0))) (dIf (dB (dOp gtD (dVar 8) (dC (.int 0)))) (dVar 1) (dC (.int 0)))) (dOp mulD (dVar 2) (dVar 7))) (gN 9))
  (dSeq (dAsg (dOp addD (dOp addD (dOp ixD (dOp ixD (dVar 4) (dVar 6)) (dC (.int 1))) (dTup (daCons (dVar 8) daNil))) (dOp mulD (dTup (daCons (dC (.int 0)) daNil)) (dOp subD (dOp subD (dVar 5) (dVar 6)) (dC (.int 1))))) (gN 10))
  (dIfS (dOrT (dB (dOp isND (dOp ixD (dVar 4) (dVar 5)) (dC .non))) (dB (dOp ltD (dVar 9) (dOp ixD (dOp ixD (dVar 4) (dVar 5)) (dC (.int 0))))))
  (dAsg (dTup (daCons (dVar 9) (daCons (dVar 10) daNil))) (gIx (dVar 4) (dVar 5)))
  dNext)))))
theorem mulD_rep0 {k : Int} {n : Nat} (e : k = (n : Int)) (hn : n < 900) (S : Store) : mulD (.tup [.int 0]) (.int k) S = some (.tup ((List.replicate n (0 : Int)).map D.int), S) := by
  have c : k ≤ 1000 ∧ [D.int 0].length ≤ 1000 ∧ [D.int 0] ≠ [] ∧ -1000 ≤ k := ⟨by omega, by simp, by simp, by omega⟩
  have e2 : (List.replicate k.toNat [D.int 0]).flatten = (List.replicate n (0 : Int)).map D.int := by
    rw [show k.toNat = n by omega, List.map_replicate]
    clear e hn c
    induction n with
    | zero => rfl
    | succ k ih => rw [List.replicate_succ, List.flatten_cons, ih, List.replicate_succ]; rfl
  unfold mulD
  dsimp only
  rw [if_pos c, e2]
theorem atI_of {xs : List D} {k : Nat} : atI xs (k : Int) = xs[k]? := atI_nat xs k
/-- what stands at b through the loops of how_many: the needs at q, the best at b -/
structure HMS (S : Store) (q b : Nat) (ns : List Int) (B : Best) : Prop where
  needs : lstAt S q = some (ns.map D.int)
  best : lstAt S b = some (B.map bD)
  ne : q ≠ b
theorem set_lst_ne {S : Store} {i j : Nat} {xs ys : List D} (h : lstAt S i = some xs) (ne : i ≠ j) : lstAt (S.set j (.lst ys)) i = some xs := by
  unfold lstAt at h ⊢
  rw [List.getElem?_set_ne (Ne.symm ne)]
  exact h
theorem set_lst_eq {S : Store} {i : Nat} {xs ys : List D} (h : lstAt S i = some xs) : lstAt (S.set i (.lst ys)) i = some ys := by
  unfold lstAt
  rw [List.getElem?_set_self (lt_of_lst h)]
theorem hm_body {a p : Int} {q b e s : Nat} {ns : List Int} {B : Best} {x : Int × List Int} {S : Store} {u5 u6 u7 u8 u9 u10 u11 : Option D} (H : HMS S q b ns B) (hn : ns.length = 4) (hB : B.length = 5) (hse : s < e) (he : e ≤ 4) (hx : B[s]? = some (some x)) (hxl : x.2.length ≤ 4) (hp : p.natAbs < 18446744073709551616) (hb : ∀ n ∈ ns, n.natAbs < 18446744073709551616) :
    ∃ v7 v8 v9 v10 S1, hmB [some (.obj q), some (.int a), some (.int p), some (.int 4), some (.obj b), some (.int (e : Int)), some (.int (s : Int)), u7, u8, u9, u10, u11] S = .nx [some (.obj q), some (.int a), some (.int p), some (.int 4), some (.obj b), some (.int (e : Int)), some (.int (s : Int)), v7, v8, v9, v10, u11] S1 ∧
      HMS S1 q b ns (hmStep ns a p e s B) ∧ Kp b S S1 := by
  have hr : (-1000000000000 ≤ (s : Int) ∧ (s : Int) ≤ 1000000000000) ∧ -1000000000000 ≤ (e : Int) ∧ (e : Int) ≤ 1000000000000 := by omega
  have z1 : sumL grdT (gN 11) dYes (dOp mulD (dOp ixD (dVar 0) (dVar 11)) (dOp subD (dVar 11) (dVar 6))) [some (.obj q), some (.int a), some (.int p), some (.int 4), some (.obj b), some (.int (e : Int)), some (.int (s : Int)), u7, u8, u9, u10, none] (rngD (s : Int) 1 (e - s)) 0 S = .ok (keptF ns s e) S := by
    have := sumL_map (S := S) (grd := grdT) (tg := gN 11) (tt := dYes) (fe := dOp mulD (dOp ixD (dVar 0) (dVar 11)) (dOp subD (dVar 11) (dVar 6))) (ρ := [some (.obj q), some (.int a), some (.int p), some (.int 4), some (.obj b), some (.int (e : Int)), some (.int (s : Int)), u7, u8, u9, u10, none]) (a := fun (i : Nat) => D.int ((s : Int) + (i : Int) * 1)) (f := fun i => (ns[s + i]?).getD 0 * (i : Int)) rfl (List.range (e - s)) 0 (fun i hi => ⟨_, rfl, rfl, ?_⟩)
    · rw [Int.zero_add] at this
      exact this
    · have hi2 := List.mem_range.mp hi
      have h4 : s + i < ns.length := by omega
      have e2 : (s : Int) + (i : Int) * 1 = ((s + i : Nat) : Int) := by omega
      have e3 : ((s + i : Nat) : Int) - (s : Int) = (i : Int) := by omega
      have m := hb ns[s + i] (List.getElem_mem h4)
      rw [e2]
      simp -implicitDefEqProofs only [e_dOp, e_dVar, List.set_cons_succ, List.set_cons_zero, List.getElem?_cons_succ, List.getElem?_cons_zero, optV_some, Out.bind_ok, e_ixO', H.needs, Option.bind_some, atI_of, List.getElem?_map, List.getElem?_eq_getElem h4, Option.map_some, optO_some, subD_int, e3, mulD_l m, Option.getD_some]
  have hsl : ∀ S, lstAt S q = some (ns.map D.int) → sliceD (.obj q) (some (s : Int)) (some (e : Int)) S = some (.obj S.length, S ++ [.lst (((ns.drop s).take (e - s)).map D.int)]) := fun S h => by
    unfold sliceD
    dsimp only
    rw [h, Option.map_some, cut_both _ (by omega) (by rw [List.length_map]; omega), ← List.map_drop, ← List.map_take]
    rfl
  have lb := lt_of_lst H.best
  have lq := lt_of_lst H.needs
  have bk : ∀ T, lstAt (S ++ T) b = some (B.map bD) := fun T => lstAt_keep _ _ H.best
  have qk : ∀ T, lstAt (S ++ T) q = some (ns.map D.int) := fun T => lstAt_keep _ _ H.needs
  have xs : (B.map bD)[s]? = some (.tup [.int x.1, .tup (x.2.map D.int)]) := by rw [List.getElem?_map, hx]; rfl
  have mr := fun S => mulD_rep0 (k := (e : Int) - (s : Int) - 1) (n := e - s - 1) (by omega) (by omega) S
  have hlen : x.2.length + 1 + (e - s - 1) ≤ 1000000 := by omega
  have hlen2 : x.2.length + 1 ≤ 1000000 := by omega
  have hst : hmStep ns a p e s B = B.set e (some (pickF ((B[e]?).getD none) (candF ns a p e s x))) := by unfold hmStep; rw [hx]
  have ixe : ixN B.length (e : Int) = some e := by
    rw [hB]
    unfold ixN
    have : e = 0 ∨ e = 1 ∨ e = 2 ∨ e = 3 ∨ e = 4 := by omega
    rcases this with rfl | rfl | rfl | rfl | rfl <;> rfl
  obtain ⟨y, hy⟩ : ∃ y, B[e]? = some y := ⟨B[e]'(by omega), List.getElem?_eq_getElem (by omega)⟩
  have ye : (B.map bD)[e]? = some (bD y) := by rw [List.getElem?_map, hy]; rfl
  have cs : ((ns.drop s).take (e - s)).sum = cntF ns s e := rfl
  have sl1 := hsl S H.needs
  generalize (ns.drop s).take (e - s) = L at sl1 cs
  generalize hT : (S ++ [DO.lst (L.map D.int)]) = S1
  have bk1 : lstAt S1 b = some (B.map bD) := by rw [← hT]; exact bk _
  have qk1 : lstAt S1 q = some (ns.map D.int) := by rw [← hT]; exact qk _
  have kp1 : Kp b S S1 := by rw [← hT]; exact Kp.app
  have nk : lstAt S1 S.length = some (L.map D.int) := by rw [← hT]; simp
  rw [hT] at sl1
  have keep0 : HMS S1 q b ns B := ⟨qk1, bk1, H.ne⟩
  have keep1 : ∀ z, HMS (S1.set b (.lst ((B.map bD).set e (bD (some z))))) q b ns (B.set e (some z)) := fun z => ⟨set_lst_ne qk1 H.ne, by rw [List.map_set]; exact set_lst_eq bk1, H.ne⟩
  have kp2 : ∀ z, Kp b S (S1.set b z) := fun z => kp1.trans Kp.set
  rw [hst, hy, Option.getD_some]
  cases y with
  | none =>
    rw [pickF]
    by_cases c1 : 0 < cntF ns s e
    · refine ⟨some (.int (keptF ns s e)), some (.int (cntF ns s e)), some (.int (candF ns a p e s x).1), some (.tup ((candF ns a p e s x).2.map D.int)), _, ?_, keep1 _, kp2 _⟩
      simp -implicitDefEqProofs [hmB, hr, z1, sl1, nk, bk1, qk1, hx, hy, mr, atI_of, hlen, hlen2, ixe, bD, cs, c1, mulD_l hp, candF]
    · refine ⟨some (.int (keptF ns s e)), some (.int (cntF ns s e)), some (.int (candF ns a p e s x).1), some (.tup ((candF ns a p e s x).2.map D.int)), _, ?_, keep1 _, kp2 _⟩
      simp -implicitDefEqProofs [hmB, hr, z1, sl1, nk, bk1, qk1, hx, hy, mr, atI_of, hlen, hlen2, ixe, bD, cs, c1, mulD_l hp, candF]
  | some w =>
    rw [pickF]
    by_cases c2 : (candF ns a p e s x).1 < w.1
    · rw [if_pos c2]
      unfold candF at c2
      dsimp only at c2
      by_cases c1 : 0 < cntF ns s e
      · rw [if_pos c1] at c2
        refine ⟨some (.int (keptF ns s e)), some (.int (cntF ns s e)), some (.int (candF ns a p e s x).1), some (.tup ((candF ns a p e s x).2.map D.int)), _, ?_, keep1 _, kp2 _⟩
        simp -implicitDefEqProofs [hmB, hr, z1, sl1, nk, bk1, qk1, hx, hy, mr, atI_of, hlen, hlen2, ixe, bD, cs, c1, c2, mulD_l hp, candF]
      · rw [if_neg c1] at c2
        have c2' : x.1 + p * keptF ns s e < w.1 := by omega
        refine ⟨some (.int (keptF ns s e)), some (.int (cntF ns s e)), some (.int (candF ns a p e s x).1), some (.tup ((candF ns a p e s x).2.map D.int)), _, ?_, keep1 _, kp2 _⟩
        simp -implicitDefEqProofs [hmB, hr, z1, sl1, nk, bk1, qk1, hx, hy, mr, atI_of, hlen, hlen2, ixe, bD, cs, c1, c2', mulD_l hp, candF]
    · rw [if_neg c2]
      have eB : B.set e (some w) = B := by
        refine List.ext_getElem? fun i => ?_
        rw [List.getElem?_set]
        split
        · rename_i h; subst h; rw [if_pos (by omega), hy]
        · rfl
      rw [eB]
      unfold candF at c2
      dsimp only at c2
      by_cases c1 : 0 < cntF ns s e
      · rw [if_pos c1] at c2
        refine ⟨some (.int (keptF ns s e)), some (.int (cntF ns s e)), some (.int (candF ns a p e s x).1), some (.tup ((candF ns a p e s x).2.map D.int)), _, ?_, keep0, kp1⟩
        simp -implicitDefEqProofs [hmB, hr, z1, sl1, nk, bk1, qk1, hx, hy, mr, atI_of, hlen, hlen2, ixe, bD, cs, c1, c2, mulD_l hp, candF]
      · rw [if_neg c1] at c2
        have c2' : ¬ x.1 + p * keptF ns s e < w.1 := by omega
        refine ⟨some (.int (keptF ns s e)), some (.int (cntF ns s e)), some (.int (candF ns a p e s x).1), some (.tup ((candF ns a p e s x).2.map D.int)), _, ?_, keep0, kp1⟩
        simp -implicitDefEqProofs [hmB, hr, z1, sl1, nk, bk1, qk1, hx, hy, mr, atI_of, hlen, hlen2, ixe, bD, cs, c1, c2', mulD_l hp, candF]
end Pr
set_option Elab.async false
set_option linter.all false
set_option maxRecDepth 100000
set_option maxHeartbeats 1000000
namespace Pr
open PySem PySem.Spec PyProof.Rows L2 DL
def hmIn (ns : List Int) (a p : Int) (e : Nat) : Nat → Nat → Best → Best
  | 0, _, B => B
  | n + 1, s, B => hmIn ns a p e n (s + 1) (hmStep ns a p e s B)
def hmOut (ns : List Int) (a p : Int) : Nat → Nat → Best → Best
  | 0, _, B => B
  | n + 1, e, B => hmOut ns a p n (e + 1) (hmIn ns a p e e 0 B)
def HM (ns : List Int) (a p : Int) : Best := hmOut ns a p 4 1 [some (0, []), none, none, none, none]
/-- all that stand before e are there -/
structure HI (e : Nat) (B : Best) : Prop where
  len : B.length = 5
  there : ∀ s < e, ∃ x, B[s]? = some (some x) ∧ x.2.length = s
theorem cand_len {ns : List Int} {a p : Int} {e s : Nat} {x : Int × List Int} (hx : x.2.length = s) (hs : s < e) : (candF ns a p e s x).2.length = e := by
  unfold candF
  simp
  omega
theorem hm_keep {ns : List Int} {a p : Int} {e s : Nat} {B : Best} (H : HI e B) (he : e ≤ 4) : HI e (hmStep ns a p e s B) := by
  unfold hmStep
  split
  · refine ⟨by rw [List.length_set]; exact H.len, fun j hj => ?_⟩
    rw [List.getElem?_set_ne (by omega)]
    exact H.there j hj
  · exact H
/-- what stands at e itself, if it is there, has e counts -/
def HE (e : Nat) (B : Best) : Prop := ∀ x, B[e]? = some (some x) → x.2.length = e
theorem hm_put {ns : List Int} {a p : Int} {e s : Nat} {B : Best} (H : HI e B) (G : HE e B) (hs : s < e) (he : e ≤ 4) : ∃ y, (hmStep ns a p e s B)[e]? = some (some y) ∧ y.2.length = e := by
  obtain ⟨x, hx, hl⟩ := H.there s hs
  have h5 := H.len
  unfold hmStep
  rw [hx]
  dsimp only
  rw [List.getElem?_set_self (by omega)]
  refine ⟨_, rfl, ?_⟩
  have c := cand_len (ns := ns) (a := a) (p := p) hl hs
  cases h : (B[e]?).getD none with
  | none => exact c
  | some w =>
    have hw : w.2.length = e := by
      refine G w ?_
      cases h2 : B[e]? with
      | none => rw [h2] at h; cases h
      | some z => rw [h2] at h; exact congrArg some h
    unfold pickF
    dsimp only
    split
    · exact c
    · exact hw
section
variable {a p : Int} {q b : Nat} {ns : List Int} (hn : ns.length = 4) (hp : p.natAbs < 18446744073709551616) (hb : ∀ n ∈ ns, n.natAbs < 18446744073709551616)
include hn hp hb
theorem hm_inner {e : Nat} (he : e ≤ 4) : ∀ (n s : Nat) (B : Best) (S : Store) (u6 u7 u8 u9 u10 u11 : Option D), s + n = e → HMS S q b ns B → HI e B →
    ∃ v6 v7 v8 v9 v10 S1, forD grdT (gN 6) hmB (rngD (s : Int) 1 n) [some (.obj q), some (.int a), some (.int p), some (.int 4), some (.obj b), some (.int (e : Int)), u6, u7, u8, u9, u10, u11] S = .nx [some (.obj q), some (.int a), some (.int p), some (.int 4), some (.obj b), some (.int (e : Int)), v6, v7, v8, v9, v10, u11] S1 ∧
      HMS S1 q b ns (hmIn ns a p e n s B) ∧ Kp b S S1
  | 0, s, B, S, u6, u7, u8, u9, u10, u11, hs, H, I => ⟨u6, u7, u8, u9, u10, S, by simp, H, Kp.refl⟩
  | n + 1, s, B, S, u6, u7, u8, u9, u10, u11, hs, H, I => by
    obtain ⟨x, hx, hl⟩ := I.there s (by omega)
    obtain ⟨v7, v8, v9, v10, S1, z, H1, k1⟩ := hm_body (a := a) (p := p) (u5 := none) (u6 := none) (u7 := u7) (u8 := u8) (u9 := u9) (u10 := u10) (u11 := u11) H hn I.len (show s < e by omega) he hx (by omega) hp hb
    obtain ⟨w6, w7, w8, w9, w10, S2, z2, H2, k2⟩ := hm_inner he n (s + 1) (hmStep ns a p e s B) S1 (some (.int (s : Int))) v7 v8 v9 v10 u11 (by omega) H1 (hm_keep I he)
    refine ⟨w6, w7, w8, w9, w10, S2, ?_, H2, k1.trans k2⟩
    rw [rngD_succ]
    rw [show ((s + 1 : Nat) : Int) = (s : Int) + 1 by omega] at z2
    rw [← z2]
    simp -implicitDefEqProofs [z]
end
theorem hmIn_inv {ns : List Int} {a p : Int} {e : Nat} (he : e ≤ 4) : ∀ (n s : Nat) (B : Best), s + n = e → HI e B → HE e B → HI e (hmIn ns a p e n s B) ∧ HE e (hmIn ns a p e n s B) ∧ (0 < n → ∃ y, (hmIn ns a p e n s B)[e]? = some (some y) ∧ y.2.length = e)
  | 0, s, B, hs, H, G => ⟨H, G, fun h => absurd h (Nat.lt_irrefl 0)⟩
  | n + 1, s, B, hs, H, G => by
    obtain ⟨y, hy, hl⟩ := hm_put (ns := ns) (a := a) (p := p) H G (show s < e by omega) he
    have G1 : HE e (hmStep ns a p e s B) := fun x hx => by rw [hy] at hx; cases hx; exact hl
    obtain ⟨i1, i2, i3⟩ := hmIn_inv (ns := ns) (a := a) (p := p) he n (s + 1) (hmStep ns a p e s B) (by omega) (hm_keep H he) G1
    refine ⟨i1, i2, fun _ => ?_⟩
    rw [hmIn]
    cases n with
    | zero => exact ⟨y, hy, hl⟩
    | succ n => exact i3 (by omega)
/-- nothing stands at e and behind it -/
def HN (e : Nat) (B : Best) : Prop := ∀ j, e ≤ j → j < 5 → B[j]? = some none
theorem hmIn_far {ns : List Int} {a p : Int} {e j : Nat} (hj : j ≠ e) : ∀ (n s : Nat) (B : Best), (hmIn ns a p e n s B)[j]? = B[j]?
  | 0, s, B => rfl
  | n + 1, s, B => by
    rw [hmIn, hmIn_far hj n]
    unfold hmStep
    split
    · rw [List.getElem?_set_ne (Ne.symm hj)]
    · rfl
theorem hm_next {ns : List Int} {a p : Int} {e : Nat} {B : Best} (he : e ≤ 4) (he1 : 1 ≤ e) (H : HI e B) (N : HN e B) : HI (e + 1) (hmIn ns a p e e 0 B) ∧ HN (e + 1) (hmIn ns a p e e 0 B) := by
  have G : HE e B := fun x hx => by rw [N e (Nat.le_refl _) (by omega)] at hx; cases hx
  obtain ⟨i1, i2, i3⟩ := hmIn_inv (ns := ns) (a := a) (p := p) he e 0 B (by omega) H G
  refine ⟨⟨i1.len, fun s hs => ?_⟩, fun j h1 h2 => ?_⟩
  · by_cases c : s = e
    · rw [c]; exact i3 (by omega)
    · exact i1.there s (by omega)
  · rw [hmIn_far (by omega)]
    exact N j (by omega) h2
def hmC : DS := dFor (diRange1 (dVar 5)) (gN 6) hmB
theorem hm_outer {a p : Int} {q b : Nat} {ns : List Int} (hn : ns.length = 4) (hp : p.natAbs < 18446744073709551616) (hb : ∀ n ∈ ns, n.natAbs < 18446744073709551616) : ∀ (n e : Nat) (B : Best) (S : Store) (u5 u6 u7 u8 u9 u10 u11 : Option D), e + n = 5 → 1 ≤ e → HMS S q b ns B → HI e B → HN e B →
    ∃ v5 v6 v7 v8 v9 v10 S1, forD grdT (gN 5) hmC (rngD (e : Int) 1 n) [some (.obj q), some (.int a), some (.int p), some (.int 4), some (.obj b), u5, u6, u7, u8, u9, u10, u11] S = .nx [some (.obj q), some (.int a), some (.int p), some (.int 4), some (.obj b), v5, v6, v7, v8, v9, v10, u11] S1 ∧
      HMS S1 q b ns (hmOut ns a p n e B) ∧ HI 5 (hmOut ns a p n e B) ∧ Kp b S S1
  | 0, e, B, S, u5, u6, u7, u8, u9, u10, u11, he, he1, H, I, N => ⟨u5, u6, u7, u8, u9, u10, S, by simp, H, by rw [show 5 = e by omega]; exact I, Kp.refl⟩
  | n + 1, e, B, S, u5, u6, u7, u8, u9, u10, u11, he, he1, H, I, N => by
    obtain ⟨v6, v7, v8, v9, v10, S1, z, H1, k1⟩ := hm_inner (a := a) (p := p) hn hp hb (show e ≤ 4 by omega) e 0 B S u6 u7 u8 u9 u10 u11 (by omega) H I
    obtain ⟨I1, N1⟩ := hm_next (ns := ns) (a := a) (p := p) (show e ≤ 4 by omega) he1 I N
    obtain ⟨w5, w6, w7, w8, w9, w10, S2, z2, H2, I2, k2⟩ := hm_outer (a := a) hn hp hb n (e + 1) (hmIn ns a p e e 0 B) S1 (some (.int (e : Int))) v6 v7 v8 v9 v10 u11 (by omega) (by omega) H1 I1 N1
    refine ⟨w5, w6, w7, w8, w9, w10, S2, ?_, H2, I2, k1.trans k2⟩
    rw [rngD_succ]
    rw [show ((e + 1 : Nat) : Int) = (e : Int) + 1 by omega] at z2
    rw [← z2]
    have hr : -1000000000000 ≤ (e : Int) ∧ (e : Int) ≤ 1000000000000 := by omega
    rw [show ((0 : Nat) : Int) = 0 from rfl] at z
    simp -implicitDefEqProofs [hmC, hr, z]
theorem hm_ok {a p : Int} {q : Nat} {ns : List Int} (hn : ns.length = 4) (hp : p.natAbs < 18446744073709551616) (hb : ∀ n ∈ ns, n.natAbs < 18446744073709551616) {S : Store} (hq : lstAt S q = some (ns.map D.int)) :
    ∃ x S', (HM ns a p)[4]? = some (some x) ∧ M_how_many [.obj q, .int a, .int p] S = .ok (.tup [.int x.1, .tup (x.2.map D.int)]) S' ∧ ∀ n, Kp n S S' := by
  have lq := lt_of_lst hq
  obtain ⟨S0, hS0⟩ : ∃ S0 : Store, S ++ [.lst [.tup [.int 0, .tup []]], .lst [.non], .lst [.non, .non, .non, .non], .lst [.tup [.int 0, .tup []], .non, .non, .non, .non]] = S0 := ⟨_, rfl⟩
  have H : HMS S0 q (S.length + 3) ns [some (0, []), none, none, none, none] := ⟨by rw [← hS0]; exact lstAt_keep _ _ hq, by rw [← hS0]; simp [bD], by omega⟩
  have I : HI 1 [some ((0 : Int), ([] : List Int)), none, none, none, none] := ⟨rfl, fun s hs => by
    have : s = 0 := by omega
    subst this
    exact ⟨_, rfl, rfl⟩⟩
  have N : HN 1 [some ((0 : Int), ([] : List Int)), none, none, none, none] := fun j h1 h2 => by
    have : j = 1 ∨ j = 2 ∨ j = 3 ∨ j = 4 := by omega
    rcases this with rfl | rfl | rfl | rfl <;> rfl
  obtain ⟨v5, v6, v7, v8, v9, v10, S1, z, H1, I1, k1⟩ := hm_outer (a := a) hn hp hb 4 1 _ S0 none none none none none none none (by omega) (by omega) H I N
  obtain ⟨x, hx, hl⟩ := I1.there 4 (by omega)
  refine ⟨x, S1, hx, ?_, fun n => ?_⟩
  · have hx2 : (lstAt S1 (S.length + 3)) = some ((HM ns a p).map bD) := H1.best
    have hx3 : ((HM ns a p).map bD)[4]? = some (.tup [.int x.1, .tup (x.2.map D.int)]) := by
      rw [List.getElem?_map, show (HM ns a p)[4]? = some (some x) from hx]; rfl
    unfold hmC hmB at z
    rw [← hS0] at z
    simp -implicitDefEqProofs only [M_how_many, e_runD, f_how_many]
    have ad := addD_obj (n := S.length) (k := S.length + 1 + 1) (S := S ++ [DO.lst [D.tup [D.int 0, D.tup []]], DO.lst [D.non], DO.lst [D.non, D.non, D.non, D.non]]) (xs := [D.tup [D.int 0, D.tup []]]) (ys := [D.non, D.non, D.non, D.non]) (by simp) (by unfold lstAt; rw [List.getElem?_append_right (by omega), show S.length + 1 + 1 - S.length = 2 by omega]; rfl) (by simp)
    simp -implicitDefEqProofs [startD, hq, hn, ad]
    erw [z]
    have h4 : atI ((HM ns a p).map bD) 4 = some (.tup [.int x.1, .tup (x.2.map D.int)]) := (atI_of (k := 4)).trans hx3
    simp -implicitDefEqProofs [hx2, h4]
  · refine ⟨Nat.le_trans (by rw [← hS0]; simp) k1.len, fun i h1 h2 => ?_⟩
    rw [k1.at_ i (by omega) (by rw [← hS0]; simp; omega), ← hS0, List.getElem?_append_left h2]
end Pr
set_option Elab.async false
set_option linter.all false
set_option maxRecDepth 100000
set_option maxHeartbeats 4000000
namespace Pr
open PySem PySem.Spec PyProof.Rows L2 DL
/-! ### trying each of sixteen picks -/
structure Pk where
  row : List Int
  k : Option Nat
  fine : Bool
def pkStep (ns cs : List Int) (x : Pk) (j : Nat) : Pk :=
  match (if (cs[j]?).getD 0 = 1 then some j else x.k) with
  | none => ⟨x.row, none, x.fine && decide ((ns[j]?).getD 0 = 0)⟩
  | some k => ⟨x.row.set k ((x.row[k]?).getD 0 + (ns[j]?).getD 0), some k, x.fine⟩
def pkC (i : Nat) : List Int := [((i / 8 % 2 : Nat) : Int), ((i / 4 % 2 : Nat) : Int), ((i / 2 % 2 : Nat) : Int), ((i % 2 : Nat) : Int)]
def pkR (ns cs : List Int) : Pk := [0, 1, 2, 3].foldl (pkStep ns cs) ⟨[0, 0, 0, 0], none, true⟩
def pkBest (best : Option Int) (v : Int) : Option Int := match best with
  | none => some v
  | some b => if v < b then some v else some b
def pkOne (ns : List Int) (a p : Int) (best : Option Int) (i : Nat) : Option Int :=
  if (pkR ns (pkC i)).fine then pkBest best ((laGo a p (ns.zip (pkR ns (pkC i)).row) 0 0).getD 0) else best
def pkAll (ns : List Int) (a p : Int) : Option Int := (List.range 16).foldl (pkOne ns a p) none
def pkCheck (ns : List Int) (a p : Int) : Bool :=
  ((List.range 16).all fun i => !(pkR ns (pkC i)).fine || (laGo a p (ns.zip (pkR ns (pkC i)).row) 0 0).isSome) &&
  match (HM ns a p)[4]? with
  | some (some (P, row)) => decide (pkAll ns a p = some P) && decide (laGo a p (ns.zip row) 0 0 = some P) && decide (row.sum = ns.sum) && (decide (ns.sum ≤ 0) || decide (laGo a p (ns.zip [0, 0, 0, 0]) 0 0 = none))
  | _ => false
def nsOf (i : Nat) : List Int := [((i / 64 : Nat) : Int), ((i / 16 % 4 : Nat) : Int), ((i / 4 % 4 : Nat) : Int), ((i % 4 : Nat) : Int)]

theorem pk_0 : ∀ i < 16, ∀ a < 6, ∀ p < 2, pkCheck (nsOf (0 + i)) (1 + (a : Nat)) (1 + (p : Nat)) = true := by decide +kernel
theorem pk_1 : ∀ i < 16, ∀ a < 6, ∀ p < 2, pkCheck (nsOf (16 + i)) (1 + (a : Nat)) (1 + (p : Nat)) = true := by decide +kernel
theorem pk_2 : ∀ i < 16, ∀ a < 6, ∀ p < 2, pkCheck (nsOf (32 + i)) (1 + (a : Nat)) (1 + (p : Nat)) = true := by decide +kernel
theorem pk_3 : ∀ i < 16, ∀ a < 6, ∀ p < 2, pkCheck (nsOf (48 + i)) (1 + (a : Nat)) (1 + (p : Nat)) = true := by decide +kernel
theorem pk_4 : ∀ i < 16, ∀ a < 6, ∀ p < 2, pkCheck (nsOf (64 + i)) (1 + (a : Nat)) (1 + (p : Nat)) = true := by decide +kernel
theorem pk_5 : ∀ i < 16, ∀ a < 6, ∀ p < 2, pkCheck (nsOf (80 + i)) (1 + (a : Nat)) (1 + (p : Nat)) = true := by decide +kernel
theorem pk_6 : ∀ i < 16, ∀ a < 6, ∀ p < 2, pkCheck (nsOf (96 + i)) (1 + (a : Nat)) (1 + (p : Nat)) = true := by decide +kernel
theorem pk_7 : ∀ i < 16, ∀ a < 6, ∀ p < 2, pkCheck (nsOf (112 + i)) (1 + (a : Nat)) (1 + (p : Nat)) = true := by decide +kernel
theorem pk_8 : ∀ i < 16, ∀ a < 6, ∀ p < 2, pkCheck (nsOf (128 + i)) (1 + (a : Nat)) (1 + (p : Nat)) = true := by decide +kernel
theorem pk_9 : ∀ i < 16, ∀ a < 6, ∀ p < 2, pkCheck (nsOf (144 + i)) (1 + (a : Nat)) (1 + (p : Nat)) = true := by decide +kernel
theorem pk_10 : ∀ i < 16, ∀ a < 6, ∀ p < 2, pkCheck (nsOf (160 + i)) (1 + (a : Nat)) (1 + (p : Nat)) = true := by decide +kernel
theorem pk_11 : ∀ i < 16, ∀ a < 6, ∀ p < 2, pkCheck (nsOf (176 + i)) (1 + (a : Nat)) (1 + (p : Nat)) = true := by decide +kernel
theorem pk_12 : ∀ i < 16, ∀ a < 6, ∀ p < 2, pkCheck (nsOf (192 + i)) (1 + (a : Nat)) (1 + (p : Nat)) = true := by decide +kernel
theorem pk_13 : ∀ i < 16, ∀ a < 6, ∀ p < 2, pkCheck (nsOf (208 + i)) (1 + (a : Nat)) (1 + (p : Nat)) = true := by decide +kernel
theorem pk_14 : ∀ i < 16, ∀ a < 6, ∀ p < 2, pkCheck (nsOf (224 + i)) (1 + (a : Nat)) (1 + (p : Nat)) = true := by decide +kernel
theorem pk_15 : ∀ i < 16, ∀ a < 6, ∀ p < 2, pkCheck (nsOf (240 + i)) (1 + (a : Nat)) (1 + (p : Nat)) = true := by decide +kernel
theorem pk_all (i : Nat) (hi : i < 256) (a : Nat) (ha : a < 6) (p : Nat) (hp : p < 2) : pkCheck (nsOf i) (1 + (a : Nat)) (1 + (p : Nat)) = true := by
  obtain ⟨k, j, hk, hj, rfl⟩ : ∃ k j, k < 16 ∧ j < 16 ∧ i = 16 * k + j := ⟨i / 16, i % 16, by omega, by omega, by omega⟩
  have : k = 0 ∨ k = 1 ∨ k = 2 ∨ k = 3 ∨ k = 4 ∨ k = 5 ∨ k = 6 ∨ k = 7 ∨ k = 8 ∨ k = 9 ∨ k = 10 ∨ k = 11 ∨ k = 12 ∨ k = 13 ∨ k = 14 ∨ k = 15 := by omega
  rcases this with rfl | rfl | rfl | rfl | rfl | rfl | rfl | rfl | rfl | rfl | rfl | rfl | rfl | rfl | rfl | rfl
  · exact pk_0 j hj a ha p hp
  · exact pk_1 j hj a ha p hp
  · exact pk_2 j hj a ha p hp
  · exact pk_3 j hj a ha p hp
  · exact pk_4 j hj a ha p hp
  · exact pk_5 j hj a ha p hp
  · exact pk_6 j hj a ha p hp
  · exact pk_7 j hj a ha p hp
  · exact pk_8 j hj a ha p hp
  · exact pk_9 j hj a ha p hp
  · exact pk_10 j hj a ha p hp
  · exact pk_11 j hj a ha p hp
  · exact pk_12 j hj a ha p hp
  · exact pk_13 j hj a ha p hp
  · exact pk_14 j hj a ha p hp
  · exact pk_15 j hj a ha p hp
end Pr
set_option Elab.async false
set_option linter.all false
set_option maxRecDepth 100000
set_option maxHeartbeats 1000000
namespace Pr
open PySem PySem.Spec PyProof.Rows L2 DL
theorem roll {S : Store} {n : Nat} (hd : DiceAt S n) {k : Int} (hk : 0 < k) (hk2 : k < 100000) : ∃ (v : Nat) (S' : Store), (v : Int) < k ∧ M__law_roll [.obj n, .int k] S = .ok (.int (v : Int)) S' ∧ Kp n S S' ∧ DiceAt S' n :=
  roll_ok hd hk (by omega)
theorem told_rule (S : Store) : toldO raisable tellers (.exn ⟨"BadRule"⟩ S) = .ok (.str "rule") S := rfl
theorem told_short (S : Store) : toldO raisable tellers (.exn ⟨"Short"⟩ S) = .ok (.str "short") S := rfl
theorem ne_rule (S : Store) : neD (.str "rule") (.str "rule") S = some (.bl false, S) := by rw [neD_str (by decide +kernel) (by decide +kernel)]; rfl
theorem ne_short (S : Store) : neD (.str "short") (.str "short") S = some (.bl false, S) := by rw [neD_str (by decide +kernel) (by decide +kernel)]; rfl
/-! ### one pick -/
def kD : Option Nat → D
  | none => .non
  | some k => .int (k : Int)
structure PKS (S : Store) (q A R : Nat) (ns cs row : List Int) : Prop where
  needs : lstAt S q = some (ns.map D.int)
  asks : lstAt S A = some (cs.map D.int)
  row_ : lstAt S R = some (row.map D.int)
  qR : q ≠ R
  aR : A ≠ R
  n4 : ns.length = 4
  c4 : cs.length = 4
  r4 : row.length = 4
theorem PKS.put {S : Store} {q A R : Nat} {ns cs row row' : List Int} (H : PKS S q A R ns cs row) (h : row'.length = 4) : PKS (S.set R (.lst (row'.map D.int))) q A R ns cs row' :=
  ⟨set_lst_ne H.needs H.qR, set_lst_ne H.asks H.aR, set_lst_eq H.row_, H.qR, H.aR, H.n4, H.c4, h⟩
def pkB : DS := (dSeq (dAsg (dIf (dB (dOp eqD (dOp ixD (dVar 8) (dVar 12)) (dC (.int 1)))) (dVar 12) (dVar 10)) (gN 10))
  (dIfS (dB (dOp isND (dVar 10) (dC .non)))
  (dAsg (dAndV (dVar 11) (dOp eqD (dOp ixD (dVar 1) (dVar 12)) (dC (.int 0)))) (gN 11))
  (dAsg (dOp addD (dOp ixD (dVar 9) (dVar 10)) (dOp ixD (dVar 1) (dVar 12))) (gIx (dVar 9) (dVar 10)))))
theorem ixN_lt {n k : Nat} (h : k < n) : ixN n (k : Int) = some k := by
  unfold ixN
  simp
  omega
theorem get_getD {α : Type} {xs : List α} {k : Nat} {d : α} (h : k < xs.length) : xs[k]? = some ((xs[k]?).getD d) := by
  rw [List.getElem?_eq_getElem h]; rfl
def KI (x : Pk) : Prop := ∀ k, x.k = some k → k < 4
theorem pk_body {q A R j : Nat} {ns cs : List Int} {x : Pk} {S : Store} {x0 x2 x3 x4 x5 x6 x7 u12 x13 : Option D} (H : PKS S q A R ns cs x.row) (K : KI x) (hj : j < 4) :
    ∃ S', pkB [x0, some (.obj q), x2, x3, x4, x5, x6, x7, some (.obj A), some (.obj R), some (kD x.k), some (.bl x.fine), some (.int (j : Int)), x13] S = .nx [x0, some (.obj q), x2, x3, x4, x5, x6, x7, some (.obj A), some (.obj R), some (kD (pkStep ns cs x j).k), some (.bl (pkStep ns cs x j).fine), some (.int (j : Int)), x13] S' ∧
      PKS S' q A R ns cs (pkStep ns cs x j).row ∧ KI (pkStep ns cs x j) ∧ Kp R S S' := by
  have c1 : cs[j]? = some ((cs[j]?).getD 0) := get_getD (by rw [H.c4]; exact hj)
  have n1 : ns[j]? = some ((ns[j]?).getD 0) := get_getD (by rw [H.n4]; exact hj)
  obtain ⟨row, k, fine⟩ := x
  have hA := H.asks
  have hQ := H.needs
  have hR := H.row_
  have r4 := H.r4
  dsimp only at hR r4
  unfold pkStep
  dsimp only
  generalize (cs[j]?).getD 0 = c at c1 ⊢
  generalize (ns[j]?).getD 0 = m at n1 ⊢
  have ac : ∀ {xs : List Int} {v : Int} {i : Nat}, xs[i]? = some v → atI (xs.map D.int) (i : Int) = some (.int v) := fun h => by rw [atI_of, List.getElem?_map, h]; rfl
  have ac1 := ac c1
  have an1 := ac n1
  by_cases hc : c = 1
  · rw [if_pos hc]
    obtain ⟨v, hv⟩ : ∃ v, row[j]? = some v := ⟨row[j]'(by omega), List.getElem?_eq_getElem (by omega)⟩
    have ar1 := ac hv
    have ix := ixN_lt (n := row.length) (k := j) (by omega)
    refine ⟨S.set R (.lst ((row.set j ((row[j]?).getD 0 + m)).map D.int)), ?_, H.put (by simp [r4]), fun k h => by cases h; exact hj, Kp.set⟩
    rw [hv, Option.getD_some, List.map_set]
    simp -implicitDefEqProofs [pkB, hA, ac1, hc, kD, hR, ar1, hQ, an1, ix]
  · rw [if_neg hc]
    cases k with
    | none =>
      refine ⟨S, ?_, H, fun k h => (by cases h), Kp.refl⟩
      cases fine with
      | true => simp -implicitDefEqProofs [pkB, hA, ac1, hc, kD, hQ, an1]
      | false => simp -implicitDefEqProofs [pkB, hA, ac1, hc, kD, hQ, an1]
    | some k =>
      have hk := K k rfl
      obtain ⟨v, hv⟩ : ∃ v, row[k]? = some v := ⟨row[k]'(by omega), List.getElem?_eq_getElem (by omega)⟩
      have ar1 := ac hv
      have ix := ixN_lt (n := row.length) (k := k) (by omega)
      refine ⟨S.set R (.lst ((row.set k ((row[k]?).getD 0 + m)).map D.int)), ?_, H.put (by simp [r4]), fun k h => by cases h; exact hk, Kp.set⟩
      rw [hv, Option.getD_some, List.map_set]
      simp -implicitDefEqProofs [pkB, hA, ac1, hc, kD, hR, ar1, hQ, an1, ix]
def pkL : DS := dFor (diRange1 (dC (.int 4))) (gN 12) pkB
theorem pk_loop {q A R : Nat} {ns cs : List Int} {S : Store} {x0 x2 x3 x4 x5 x6 x7 u12 x13 : Option D} (H : PKS S q A R ns cs [0, 0, 0, 0]) :
    ∃ S', pkL [x0, some (.obj q), x2, x3, x4, x5, x6, x7, some (.obj A), some (.obj R), some .non, some (.bl true), u12, x13] S = .nx [x0, some (.obj q), x2, x3, x4, x5, x6, x7, some (.obj A), some (.obj R), some (kD (pkR ns cs).k), some (.bl (pkR ns cs).fine), some (.int 3), x13] S' ∧
      PKS S' q A R ns cs (pkR ns cs).row ∧ Kp R S S' := by
  have K0 : KI ⟨[0, 0, 0, 0], none, true⟩ := fun k h => by cases h
  obtain ⟨S1, z1, H1, K1, k1⟩ := pk_body (x := ⟨[0, 0, 0, 0], none, true⟩) (j := 0) (x0 := x0) (x2 := x2) (x3 := x3) (x4 := x4) (x5 := x5) (x6 := x6) (x7 := x7) (u12 := u12) (x13 := x13) H K0 (by decide)
  obtain ⟨S2, z2, H2, K2, k2⟩ := pk_body (j := 1) (x0 := x0) (x2 := x2) (x3 := x3) (x4 := x4) (x5 := x5) (x6 := x6) (x7 := x7) (u12 := u12) (x13 := x13) H1 K1 (by decide)
  obtain ⟨S3, z3, H3, K3, k3⟩ := pk_body (j := 2) (x0 := x0) (x2 := x2) (x3 := x3) (x4 := x4) (x5 := x5) (x6 := x6) (x7 := x7) (u12 := u12) (x13 := x13) H2 K2 (by decide)
  obtain ⟨S4, z4, H4, K4, k4⟩ := pk_body (j := 3) (x0 := x0) (x2 := x2) (x3 := x3) (x4 := x4) (x5 := x5) (x6 := x6) (x7 := x7) (u12 := u12) (x13 := x13) H3 K3 (by decide)
  refine ⟨S4, ?_, H4, ((k1.trans k2).trans k3).trans k4⟩
  have e : pkR ns cs = pkStep ns cs (pkStep ns cs (pkStep ns cs (pkStep ns cs ⟨[0, 0, 0, 0], none, true⟩ 0) 1) 2) 3 := rfl
  rw [e]
  generalize pkStep ns cs (pkStep ns cs (pkStep ns cs (pkStep ns cs ⟨[0, 0, 0, 0], none, true⟩ 0) 1) 2) 3 = w4 at *
  generalize pkStep ns cs (pkStep ns cs (pkStep ns cs ⟨[0, 0, 0, 0], none, true⟩ 0) 1) 2 = w3 at *
  generalize pkStep ns cs (pkStep ns cs ⟨[0, 0, 0, 0], none, true⟩ 0) 1 = w2 at *
  generalize pkStep ns cs ⟨[0, 0, 0, 0], none, true⟩ 0 = w1 at *
  dsimp only at z1
  rw [show kD none = .non from rfl] at z1
  simp only [show ((0 : Nat) : Int) = 0 from rfl, show ((1 : Nat) : Int) = 1 from rfl, show ((2 : Nat) : Int) = 2 from rfl, show ((3 : Nat) : Int) = 3 from rfl] at z1 z2 z3 z4
  simp -implicitDefEqProofs [pkL, z1, z2, z3, z4]
end Pr
set_option Elab.async false
set_option linter.all false
set_option maxRecDepth 100000
set_option maxHeartbeats 1000000
namespace Pr
open PySem PySem.Spec PyProof.Rows L2 DL
def oD : Option Int → D
  | none => .non
  | some v => .int v
def pickB : DS := (dSeq (dAsg (dLst (daCons (dOp modD (dOp fdivD (dVar 7) (dC (.int 8))) (dC (.int 2))) (daCons (dOp modD (dOp fdivD (dVar 7) (dC (.int 4))) (dC (.int 2))) (daCons (dOp modD (dOp fdivD (dVar 7) (dC (.int 2))) (dC (.int 2))) (daCons (dOp modD (dVar 7) (dC (.int 2))) daNil))))) (gN 8))
  (dSeq (dPar2 9 10 (daCons (dLst (daCons (dC (.int 0)) (daCons (dC (.int 0)) (daCons (dC (.int 0)) (daCons (dC (.int 0)) daNil))))) (daCons (dC .non) daNil)))
  (dSeq (dAsg (dC (.bl true)) (gN 11))
  (dSeq pkL
  (dIfS (dB (dVar 11))
  (dSeq (dAsg (dCall 4 M_look_asked (daCons (dVar 1) (daCons (dVar 2) (daCons (dVar 3) (daCons (dVar 9) daNil))))) (gN 13))
  (dAsg (dIf (dOrT (dB (dOp isND (dVar 6) (dC .non))) (dB (dOp ltD (dVar 13) (dVar 6)))) (dVar 13) (dVar 6)) (gN 6)))
  dNext)))))
theorem nat_div (i k : Nat) : (i : Int) / (k : Int) = ((i / k : Nat) : Int) := (Int.natCast_ediv i k).symm
theorem nat_mod (i k : Nat) : (i : Int) % (k : Int) = ((i % k : Nat) : Int) := (Int.natCast_emod i k).symm
theorem pick_body {q i : Nat} {a p : Int} {ns : List Int} {best : Option Int} {S : Store} {x0 x4 x5 u7 u8 u9 u10 u11 u12 u13 : Option D} (hq : lstAt S q = some (ns.map D.int)) (hn : ns.length = 4) (hp : p.natAbs < 18446744073709551616)
    (hf : (pkR ns (pkC i)).fine = true → (laGo a p (ns.zip (pkR ns (pkC i)).row) 0 0).isSome = true) :
    ∃ v8 v9 v10 v11 v12 v13 S', pickB [x0, some (.obj q), some (.int a), some (.int p), x4, x5, some (oD best), some (.int (i : Int)), u8, u9, u10, u11, u12, u13] S = .nx [x0, some (.obj q), some (.int a), some (.int p), x4, x5, some (oD (pkOne ns a p best i)), some (.int (i : Int)), v8, v9, v10, v11, v12, v13] S' ∧ ∀ n, Kp n S S' := by
  have lq := lt_of_lst hq
  obtain ⟨S0, hS0⟩ : ∃ S0 : Store, S ++ [DO.lst ((pkC i).map D.int), .lst (([0, 0, 0, 0] : List Int).map D.int)] = S0 := ⟨_, rfl⟩
  have H : PKS S0 q S.length (S.length + 1) ns (pkC i) [0, 0, 0, 0] := ⟨by rw [← hS0]; exact lstAt_keep _ _ hq, by rw [← hS0]; unfold lstAt; rw [List.getElem?_append_right (by omega), Nat.sub_self]; rfl, by rw [← hS0]; unfold lstAt; rw [List.getElem?_append_right (by omega), show S.length + 1 - S.length = 1 by omega]; rfl, by omega, by omega, hn, rfl, rfl⟩
  obtain ⟨S1, z, H1, k1⟩ := pk_loop (x0 := x0) (x2 := some (.int a)) (x3 := some (.int p)) (x4 := x4) (x5 := x5) (x6 := some (oD best)) (x7 := some (.int (i : Int))) (u12 := u12) (x13 := u13) H
  have kp : ∀ n, Kp n S S1 := fun n => ⟨Nat.le_trans (by rw [← hS0]; simp) k1.len, fun j h1 h2 => by
    rw [k1.at_ j (by omega) (by rw [← hS0]; simp; omega), ← hS0, List.getElem?_append_left h2]⟩
  obtain ⟨c0, h0⟩ : ∃ c : Int, (i : Int) / 8 % 2 = c := ⟨_, rfl⟩
  obtain ⟨c1, h1⟩ : ∃ c : Int, (i : Int) / 4 % 2 = c := ⟨_, rfl⟩
  obtain ⟨c2, h2⟩ : ∃ c : Int, (i : Int) / 2 % 2 = c := ⟨_, rfl⟩
  obtain ⟨c3, h3⟩ : ∃ c : Int, (i : Int) % 2 = c := ⟨_, rfl⟩
  have e8 : ∀ S, fdivD (.int (i : Int)) (.int 8) S = some (.int ((i : Int) / 8), S) := fun S => fdiv_small (by decide) (by decide)
  have e4 : ∀ S, fdivD (.int (i : Int)) (.int 4) S = some (.int ((i : Int) / 4), S) := fun S => fdiv_small (by decide) (by decide)
  have e2 : ∀ S, fdivD (.int (i : Int)) (.int 2) S = some (.int ((i : Int) / 2), S) := fun S => fdiv_small (by decide) (by decide)
  have m8 : ∀ S, modD (.int ((i : Int) / 8)) (.int 2) S = some (.int c0, S) := fun S => by rw [modD_int (by decide), h0]
  have m4 : ∀ S, modD (.int ((i : Int) / 4)) (.int 2) S = some (.int c1, S) := fun S => by rw [modD_int (by decide), h1]
  have m2 : ∀ S, modD (.int ((i : Int) / 2)) (.int 2) S = some (.int c2, S) := fun S => by rw [modD_int (by decide), h2]
  have m1 : ∀ S, modD (.int (i : Int)) (.int 2) S = some (.int c3, S) := fun S => by rw [modD_int (by decide), h3]
  rw [← hS0] at z
  have pc : (pkC i).map D.int = [.int c0, .int c1, .int c2, .int c3] := by
    unfold pkC
    simp
    omega
  rw [pc] at z
  have H1r := H1.row_
  have H1q := H1.needs
  unfold pkOne
  generalize hr : pkR ns (pkC i) = r at z hf H1r H1q ⊢
  by_cases hfine : r.fine = true
  · obtain ⟨v, hv⟩ := Option.isSome_iff_exists.mp (hf hfine)
    have lk := la_ok (a := a) (p := p) (v := v) (q := q) (d := .obj (S.length + 1)) (ns := ns) (cs := r.row) (S := S1) hp H1q H1r hv
    rw [if_pos hfine, hv, Option.getD_some]
    rw [hfine] at z
    refine ⟨some (.obj S.length), some (.obj (S.length + 1)), some (kD r.k), some (.bl true), some (.int 3), some (.int v), S1, ?_, kp⟩
    simp -implicitDefEqProofs only [List.map_cons, List.map_nil] at z
    cases best with
    | none =>
      rw [show oD none = .non from rfl] at z
      simp -implicitDefEqProofs [pickB, e8, e4, e2, m8, m4, m2, m1, z, lk, oD, pkBest]
    | some b =>
      rw [show oD (some b) = .int b from rfl] at z
      by_cases hb : v < b
      · simp -implicitDefEqProofs [pickB, e8, e4, e2, m8, m4, m2, m1, z, lk, oD, pkBest, hb]
      · simp -implicitDefEqProofs [pickB, e8, e4, e2, m8, m4, m2, m1, z, lk, oD, pkBest, hb]
  · have hff : r.fine = false := by simpa using hfine
    rw [if_neg hfine]
    rw [hff] at z
    refine ⟨some (.obj S.length), some (.obj (S.length + 1)), some (kD r.k), some (.bl false), some (.int 3), u13, S1, ?_, kp⟩
    simp -implicitDefEqProofs only [List.map_cons, List.map_nil] at z
    simp -implicitDefEqProofs [pickB, e8, e4, e2, m8, m4, m2, m1, z]
theorem pick_loop {q : Nat} {a p : Int} {ns : List Int} (hn : ns.length = 4) (hp : p.natAbs < 18446744073709551616) (hf : ∀ i < 16, (pkR ns (pkC i)).fine = true → (laGo a p (ns.zip (pkR ns (pkC i)).row) 0 0).isSome = true) {x0 x4 x5 : Option D} :
    ∀ (n i : Nat) (best : Option Int) (S : Store) (u7 u8 u9 u10 u11 u12 u13 : Option D), i + n = 16 → lstAt S q = some (ns.map D.int) →
    ∃ v7 v8 v9 v10 v11 v12 v13 S', forD grdT (gN 7) pickB (rngD (i : Int) 1 n) [x0, some (.obj q), some (.int a), some (.int p), x4, x5, some (oD best), u7, u8, u9, u10, u11, u12, u13] S = .nx [x0, some (.obj q), some (.int a), some (.int p), x4, x5, some (oD ((List.range' i n).foldl (pkOne ns a p) best)), v7, v8, v9, v10, v11, v12, v13] S' ∧ ∀ n, Kp n S S'
  | 0, i, best, S, u7, u8, u9, u10, u11, u12, u13, hi, hq => ⟨u7, u8, u9, u10, u11, u12, u13, S, by simp, fun _ => Kp.refl⟩
  | n + 1, i, best, S, u7, u8, u9, u10, u11, u12, u13, hi, hq => by
    obtain ⟨v8, v9, v10, v11, v12, v13, S1, z, k1⟩ := pick_body (a := a) (i := i) (best := best) (x0 := x0) (x4 := x4) (x5 := x5) (u7 := u7) (u8 := u8) (u9 := u9) (u10 := u10) (u11 := u11) (u12 := u12) (u13 := u13) hq hn hp (hf i (by omega))
    have lq := lt_of_lst hq
    obtain ⟨w7, w8, w9, w10, w11, w12, w13, S2, z2, k2⟩ := pick_loop hn hp hf (x0 := x0) (x4 := x4) (x5 := x5) n (i + 1) (pkOne ns a p best i) S1 (some (.int (i : Int))) v8 v9 v10 v11 v12 v13 (by omega) ((k1 (q + 1)).lst (by omega) hq)
    refine ⟨w7, w8, w9, w10, w11, w12, w13, S2, ?_, fun n => (k1 n).trans (k2 n)⟩
    rw [rngD_succ, List.range'_succ, List.foldl_cons]
    rw [show ((i + 1 : Nat) : Int) = (i : Int) + 1 by omega] at z2
    rw [← z2]
    simp -implicitDefEqProofs [z]
end Pr
set_option Elab.async false
set_option linter.all false
set_option maxRecDepth 100000
set_option maxHeartbeats 1000000
namespace Pr
open PySem PySem.Spec PyProof.Rows L2 DL
structure Asked (ns : List Int) (a p P : Int) (row : List Int) : Prop where
  fine : ∀ i < 16, (pkR ns (pkC i)).fine = true → (laGo a p (ns.zip (pkR ns (pkC i)).row) 0 0).isSome = true
  hm : (HM ns a p)[4]? = some (some (P, row))
  best : pkAll ns a p = some P
  look : laGo a p (ns.zip row) 0 0 = some P
  sum_ : row.sum = ns.sum
  short : 0 < ns.sum → laGo a p (ns.zip [0, 0, 0, 0]) 0 0 = none
theorem asked_of {ns : List Int} {a p : Int} (h : pkCheck ns a p = true) : ∃ P row, Asked ns a p P row := by
  unfold pkCheck at h
  rw [Bool.and_eq_true] at h
  obtain ⟨h1, h2⟩ := h
  have f : ∀ i < 16, (pkR ns (pkC i)).fine = true → (laGo a p (ns.zip (pkR ns (pkC i)).row) 0 0).isSome = true := fun i hi hf => by
    have := List.all_eq_true.mp h1 i (List.mem_range.mpr hi)
    rw [hf] at this
    simpa using this
  revert h2
  split
  · rename_i P row e
    intro h2
    simp only [Bool.and_eq_true, Bool.or_eq_true, decide_eq_true_eq] at h2
    obtain ⟨⟨⟨b, l⟩, s⟩, o⟩ := h2
    exact ⟨P, row, f, e, b, l, s, fun c => o.resolve_left (by omega)⟩
  · intro h2; cases h2
theorem ns_of {n0 n1 n2 n3 : Nat} (h0 : n0 < 4) (h1 : n1 < 4) (h2 : n2 < 4) (h3 : n3 < 4) : [(n0 : Int), (n1 : Int), (n2 : Int), (n3 : Int)] = nsOf (n0 * 64 + n1 * 16 + n2 * 4 + n3) := by
  unfold nsOf
  rw [show (n0 * 64 + n1 * 16 + n2 * 4 + n3) / 64 = n0 by omega, show (n0 * 64 + n1 * 16 + n2 * 4 + n3) / 16 % 4 = n1 by omega, show (n0 * 64 + n1 * 16 + n2 * 4 + n3) / 4 % 4 = n2 by omega, show (n0 * 64 + n1 * 16 + n2 * 4 + n3) % 4 = n3 by omega]
theorem asked_all {n0 n1 n2 n3 a p : Nat} (h0 : n0 < 4) (h1 : n1 < 4) (h2 : n2 < 4) (h3 : n3 < 4) (ha : a < 6) (hp : p < 2) : ∃ P row, Asked [(n0 : Int), (n1 : Int), (n2 : Int), (n3 : Int)] (1 + (a : Int)) (1 + (p : Int)) P row := by
  rw [ns_of h0 h1 h2 h3]
  exact asked_of (pk_all _ (by omega) a ha p hp)
def IntP (y : D) : Prop := ∃ v : Nat, v < 4 ∧ y = .int (v : Int)
theorem when_1 (S : Store) : M_when_to_ask [.tup [.int 2, .int 2, .int 2, .int 2], .int 7, .int 2, .int 2] S = .ok (.int 1) S := by
  have s0 : sliceD (.tup [.int 2, .int 2, .int 2, .int 2]) (some 0) (some 2) S = some (.tup [.int 2, .int 2], S) := rfl
  have s1 : sliceD (.tup [.int 2, .int 2, .int 2, .int 2]) (some 1) (some 3) S = some (.tup [.int 2, .int 2], S) := rfl
  simp -implicitDefEqProofs only [M_when_to_ask, e_runD, f_when_to_ask]
  simp -implicitDefEqProofs [startD, s0, s1]
theorem when_2 (S : Store) : M_when_to_ask [.tup [.int 0, .int 0], .int 5, .int 1, .int 3] S = .ok .non S := by
  have s0 : sliceD (.tup [.int 0, .int 0]) (some 0) (some 1) S = some (.tup [.int 0], S) := rfl
  have s1 : sliceD (.tup [.int 0, .int 0]) (some 1) (some 2) S = some (.tup [.int 0], S) := rfl
  simp -implicitDefEqProofs only [M_when_to_ask, e_runD, f_when_to_ask]
  simp -implicitDefEqProofs [startD, s0, s1]
theorem needs_ok {n : Nat} {S : Store} (hd : DiceAt S n) : ∃ (n0 n1 n2 n3 : Nat) (S' : Store), n0 < 4 ∧ n1 < 4 ∧ n2 < 4 ∧ n3 < 4 ∧
    dLc (diRange1 (dC (.int 4))) (gN 10) dYes (dCall 2 M__law_roll (daCons (dVar 0) (daCons (dC (.int 4)) daNil))) [10] [some (.obj n), none, none, none, none, none, none, none, none, none, none, none, none, none] S = .ok (.obj S.length) S' ∧
    lstAt S' S.length = some ([(n0 : Int), (n1 : Int), (n2 : Int), (n3 : Int)].map D.int) ∧ Kp n S S' ∧ DiceAt S' n := by
  obtain ⟨ys, S', q1, q2, q3, q4, q5⟩ := dLc_inv (n := n) (S := S) (S0 := S) (grd := grdT) (fi := diRange1 (dC (.int 4))) (tg := gN 10) (fe := dCall 2 M__law_roll (daCons (dVar 0) (daCons (dC (.int 4)) daNil))) (vs := [10]) (ρ := [some (.obj n), none, none, none, none, none, none, none, none, none, none, none, none, none]) (ds := [.int 0, .int 1, .int 2, .int 3]) (P := fun _ y => IntP y) (by simp) (fun _ _ => rfl) hd (by simp) (fun d hx S k hd => by
    obtain ⟨v, S', hv, e, k', d'⟩ := roll hd (show (0 : Int) < 4 by decide) (by decide)
    refine ⟨[some (.obj n), none, none, none, none, none, none, none, none, none, some d, none, none, none], .int (v : Int), S', rfl, ?_, ⟨v, by omega, rfl⟩, k', d'⟩
    simp -implicitDefEqProofs [e])
  match ys, q2 with
  | [_, _, _, _], ⟨⟨n0, h0, rfl⟩, ⟨n1, h1, rfl⟩, ⟨n2, h2, rfl⟩, ⟨n3, h3, rfl⟩, _⟩ => exact ⟨n0, n1, n2, n3, S', h0, h1, h2, h3, q1, q3, q4, q5⟩
def needE : DE := dLc (diRange1 (dC (.int 4))) (gN 10) dYes (dCall 2 M__law_roll (daCons (dVar 0) (daCons (dC (.int 4)) daNil))) [10]
def pickL : DS := dFor (diRange1 (dC (.int 16))) (gN 7) pickB
theorem pick_all {q : Nat} {a p : Int} {ns : List Int} (hn : ns.length = 4) (hp : p.natAbs < 18446744073709551616) (hf : ∀ i < 16, (pkR ns (pkC i)).fine = true → (laGo a p (ns.zip (pkR ns (pkC i)).row) 0 0).isSome = true) {x0 x4 x5 u7 u8 u9 u10 u11 u12 u13 : Option D} {S : Store} (hq : lstAt S q = some (ns.map D.int)) :
    ∃ v7 v8 v9 v10 v11 v12 v13 S', pickL [x0, some (.obj q), some (.int a), some (.int p), x4, x5, some .non, u7, u8, u9, u10, u11, u12, u13] S = .nx [x0, some (.obj q), some (.int a), some (.int p), x4, x5, some (oD (pkAll ns a p)), v7, v8, v9, v10, v11, v12, v13] S' ∧ ∀ n, Kp n S S' := by
  obtain ⟨v7, v8, v9, v10, v11, v12, v13, S', z, k⟩ := pick_loop (a := a) hn hp hf (x0 := x0) (x4 := x4) (x5 := x5) 16 0 none S u7 u8 u9 u10 u11 u12 u13 (by omega) hq
  refine ⟨v7, v8, v9, v10, v11, v12, v13, S', ?_, k⟩
  unfold pickL
  rw [e_dFor, e_diRange1]
  have e : (dC (.int 16)) [x0, some (.obj q), some (.int a), some (.int p), x4, x5, some .non, u7, u8, u9, u10, u11, u12, u13] S = .ok (.int 16) S := rfl
  rw [e]
  simp only [show ((0 : Nat) : Int) = 0 from rfl] at z
  rw [show oD none = .non from rfl] at z
  exact z
def askB : DS :=
  (dSeq (dAsg (dTup (daCons needE (daCons (dOp addD (dC (.int 1)) (dCall 2 M__law_roll (daCons (dVar 0) (daCons (dC (.int 6)) daNil)))) (daCons (dOp addD (dC (.int 1)) (dCall 2 M__law_roll (daCons (dVar 0) (daCons (dC (.int 2)) daNil)))) daNil)))) (gT 3 (gsCons (gN 1) (gsCons (gN 2) (gsCons (gN 3) gsNil)))))
  (dSeq (dAsg (dCall 3 M_how_many (daCons (dVar 1) (daCons (dVar 2) (daCons (dVar 3) daNil)))) (gT 2 (gsCons (gN 4) (gsCons (gN 5) gsNil))))
  (dSeq (dAsg (dC .non) (gN 6))
  (dSeq pickL
  (dSeq (dIfS (dOrT (dB (dOp neD (dVar 4) (dVar 6))) (dOrT (dB (dOp neD (dCall 4 M_look_asked (daCons (dVar 1) (daCons (dVar 2) (daCons (dVar 3) (daCons (dVar 5) daNil))))) (dVar 4))) (dB (dOp neD (dBlt sumLT (daCons (dVar 5) daNil)) (dBlt sumLT (daCons (dVar 1) daNil))))))
  (dRet (dC (.bl false)))
  dNext)
  (dSeq (dIfS (dAndT (dB (dOp gtD (dBlt sumLT (daCons (dVar 1) daNil)) (dC (.int 0)))) (dB (dOp neD (dTold raisable tellers (dCall 4 M_look_asked (daCons (dVar 1) (daCons (dVar 2) (daCons (dVar 3) (daCons (dTup (daCons (dC (.int 0)) (daCons (dC (.int 0)) (daCons (dC (.int 0)) (daCons (dC (.int 0)) daNil))))) daNil)))))) (dC (.str "short")))))
  (dRet (dC (.bl false)))
  dNext)
  (dRet (dAndV (dOp eqD (dCall 4 M_when_to_ask (daCons (dTup (daCons (dC (.int 2)) (daCons (dC (.int 2)) (daCons (dC (.int 2)) (daCons (dC (.int 2)) daNil))))) (daCons (dC (.int 7)) (daCons (dC (.int 2)) (daCons (dC (.int 2)) daNil))))) (dC (.int 1))) (dOp isND (dCall 4 M_when_to_ask (daCons (dTup (daCons (dC (.int 0)) (daCons (dC (.int 0)) daNil))) (daCons (dC (.int 5)) (daCons (dC (.int 1)) (daCons (dC (.int 3)) daNil))))) (dC .non))))))))))
theorem M_asked_eq : M__law_asked = runD 14 askB := rfl
theorem law_asked_ok {n : Nat} {S : Store} (hd : DiceAt S n) : ∃ S', M__law_asked [.obj n] S = .ok (.bl true) S' ∧ Kp n S S' ∧ DiceAt S' n := by
  obtain ⟨n0, n1, n2, n3, S1, h0, h1, h2, h3, e1, q1, k1, d1⟩ := needs_ok hd
  obtain ⟨a, S2, ha, e2, k2, d2⟩ := roll d1 (show (0 : Int) < 6 by decide) (by decide)
  obtain ⟨p, S3, hp, e3, k3, d3⟩ := roll d2 (show (0 : Int) < 2 by decide) (by decide)
  obtain ⟨P, row, A⟩ := asked_all h0 h1 h2 h3 (show a < 6 by omega) (show p < 2 by omega)
  generalize hns : [(n0 : Int), (n1 : Int), (n2 : Int), (n3 : Int)] = ns at q1 A
  have hn : ns.length = 4 := by rw [← hns]; rfl
  have hb : ∀ m ∈ ns, m.natAbs < 18446744073709551616 := by rw [← hns]; intro m hm; simp at hm; omega
  obtain ⟨x0, x1, x2, hdd⟩ := hd
  have ln := lt_of_lst hdd
  have q3 : lstAt S3 S.length = some (ns.map D.int) := k3.lst (by omega) (k2.lst (by omega) q1)
  obtain ⟨w, S4, hw, e4, k4⟩ := hm_ok (a := 1 + (a : Int)) (p := 1 + (p : Int)) hn (by omega) hb q3
  rw [A.hm] at hw
  cases hw
  have q4 := (k4 (S.length + 1)).lst (by omega) q3
  obtain ⟨v7, v8, v9, v10, v11, v12, v13, S5, e5, k5⟩ := pick_all (a := 1 + (a : Int)) (p := 1 + (p : Int)) (x0 := some (.obj n)) (x4 := some (.int P)) (x5 := some (.tup (row.map D.int))) (u7 := none) (u8 := none) (u9 := none) (u10 := none) (u11 := none) (u12 := none) (u13 := none) hn (by omega) A.fine q4
  have q5 := (k5 (S.length + 1)).lst (by omega) q4
  rw [A.best, show oD (some P) = .int P from rfl] at e5
  have l1 := la_ok (a := 1 + (a : Int)) (p := 1 + (p : Int)) (d := .tup (row.map D.int)) (cs := row) (by omega) q5 rfl A.look
  have kk : Kp n S S5 := (((k1.trans k2).trans k3).trans (k4 n)).trans (k5 n)
  have dd : DiceAt S5 n := (d3.kp (k4 (n + 1)) (by omega)).kp (k5 (n + 1)) (by omega)
  have w1 := when_1 S5
  have w2 := when_2 S5
  refine ⟨S5, ?_, kk, dd⟩
  rw [M_asked_eq, e_runD]
  unfold askB
  have e1' : needE [some (.obj n), none, none, none, none, none, none, none, none, none, none, none, none, none] S = .ok (.obj S.length) S1 := e1
  by_cases hs : 0 < ns.sum
  · have l2 := la_short (a := 1 + (a : Int)) (p := 1 + (p : Int)) (d := .tup [.int 0, .int 0, .int 0, .int 0]) (cs := [0, 0, 0, 0]) (by omega) q5 rfl (A.short hs)
    simp -implicitDefEqProofs [startD, e1', e2, e3, e4, e5, l1, q5, A.sum_, hs, l2, told_short, ne_short, w1, w2]
  · simp -implicitDefEqProofs [startD, e1', e2, e3, e4, e5, l1, q5, A.sum_, hs, w1, w2]
end Pr
set_option Elab.async false
set_option linter.all false
set_option maxRecDepth 100000
set_option maxHeartbeats 1000000
namespace Pr
open PySem PySem.Spec PyProof.Rows L2 DL
/-! ### a stock -/
abbrev Lots := List (Int × Int)
theorem told_pr : Told pairD pairP := told_pair
def s1 (ps : Lots) : Int := (ps.map (·.1)).sum
def s2 (ps : Lots) : Int := (ps.map (·.2)).sum
theorem s1_app (a b : Lots) : s1 (a ++ b) = s1 a + s1 b := by unfold s1; rw [List.map_append, List.sum_append]
theorem s2_app (a b : Lots) : s2 (a ++ b) = s2 a + s2 b := by unfold s2; rw [List.map_append, List.sum_append]
@[simp] theorem s1_cons (x : Int × Int) (a : Lots) : s1 (x :: a) = x.1 + s1 a := by unfold s1; rw [List.map_cons, List.sum_cons]
@[simp] theorem s2_cons (x : Int × Int) (a : Lots) : s2 (x :: a) = x.2 + s2 a := by unfold s2; rw [List.map_cons, List.sum_cons]
@[simp] theorem s1_nil : s1 [] = 0 := rfl
@[simp] theorem s2_nil : s2 [] = 0 := rfl
theorem s1_rev (a : Lots) : s1 a.reverse = s1 a := by
  induction a with
  | nil => rfl
  | cons x a ih => rw [List.reverse_cons, s1_app, ih, s1_cons, s1_cons, s1_nil]; omega
theorem s2_rev (a : Lots) : s2 a.reverse = s2 a := by
  induction a with
  | nil => rfl
  | cons x a ih => rw [List.reverse_cons, s2_app, ih, s2_cons, s2_cons, s2_nil]; omega
/-- only what stands at xs may change -/
structure Ch (xs : List Nat) (S S' : Store) : Prop where
  len : S.length ≤ S'.length
  at_ : ∀ i, i ∉ xs → i < S.length → S'[i]? = S[i]?
theorem Ch.refl {xs : List Nat} {S : Store} : Ch xs S S := ⟨Nat.le_refl _, fun _ _ _ => rfl⟩
theorem Ch.trans {xs : List Nat} {S S1 S2 : Store} (a : Ch xs S S1) (b : Ch xs S1 S2) : Ch xs S S2 := ⟨Nat.le_trans a.len b.len, fun i h1 h2 => (b.at_ i h1 (Nat.lt_of_lt_of_le h2 a.len)).trans (a.at_ i h1 h2)⟩
theorem Ch.app {xs : List Nat} {S T : Store} : Ch xs S (S ++ T) := ⟨by simp, fun i _ h => by rw [List.getElem?_append_left h]⟩
theorem Ch.set {xs : List Nat} {S : Store} {n : Nat} {o : DO} (h : n ∈ xs) : Ch xs S (S.set n o) := ⟨by simp, fun i h1 _ => by rw [List.getElem?_set_ne (fun e => h1 (by rw [← e]; exact h))]⟩
theorem Ch.set_new {xs : List Nat} {S S1 : Store} {n : Nat} {o : DO} (c : Ch xs S S1) (h : S.length ≤ n) : Ch xs S (S1.set n o) := ⟨by simpa using c.len, fun i h1 h2 => by rw [List.getElem?_set_ne (by omega)]; exact c.at_ i h1 h2⟩
theorem Ch.lst {xs : List Nat} {S S1 : Store} (a : Ch xs S S1) {i : Nat} {ds : List D} (hi : i ∉ xs) (h : lstAt S i = some ds) : lstAt S1 i = some ds := by
  have := a.at_ i hi (lt_of_lst h)
  unfold lstAt at h ⊢
  rw [this]
  exact h
def stF (w : Str) (L G C : Nat) : List (Str × D) := [("way", .str w), ("lots", .obj L), ("gone", .obj G), ("came", .obj C)]
@[simp] theorem lk_way (w : Str) (L G C : Nat) : List.lookup (Str.ofString "way") (stF w L G C) = some (.str w) := rfl
@[simp] theorem lk_lots (w : Str) (L G C : Nat) : List.lookup (Str.ofString "lots") (stF w L G C) = some (.obj L) := rfl
@[simp] theorem lk_gone (w : Str) (L G C : Nat) : List.lookup (Str.ofString "gone") (stF w L G C) = some (.obj G) := rfl
@[simp] theorem lk_came (w : Str) (L G C : Nat) : List.lookup (Str.ofString "came") (stF w L G C) = some (.obj C) := rfl
@[simp] theorem lk_there (w : Str) (L G C : Nat) : List.lookup (Str.ofString "there") (stF w L G C) = none := rfl
@[simp] theorem lk_worth (w : Str) (L G C : Nat) : List.lookup (Str.ofString "worth") (stF w L G C) = none := rfl
@[simp] theorem lk_look (w : Str) (L G C : Nat) : List.lookup (Str.ofString "look") (stF w L G C) = none := rfl
@[simp] theorem lk_come (w : Str) (L G C : Nat) : List.lookup (Str.ofString "come") (stF w L G C) = none := rfl
@[simp] theorem lk_go (w : Str) (L G C : Nat) : List.lookup (Str.ofString "go") (stF w L G C) = none := rfl
@[simp] theorem lk_back (w : Str) (L G C : Nat) : List.lookup (Str.ofString "come_back") (stF w L G C) = none := rfl
@[simp] theorem lk_lowered (w : Str) (L G C : Nat) : List.lookup (Str.ofString "lowered") (stF w L G C) = none := rfl
@[simp] theorem put_lots (w : Str) (L L' G C : Nat) : putD (Str.ofString "lots") (.obj L') (stF w L G C) = stF w L' G C := rfl
@[simp] theorem len_st (w : Str) (L G C : Nat) : (stF w L G C).length = 4 := rfl
structure SA (S : Store) (s L G C : Nat) (w : Str) (lots gone came : Lots) : Prop where
  ins : insAt S (.obj s) = some ("Stock", stF w L G C)
  l : lstAt S L = some (lots.map pairD)
  g : lstAt S G = some (gone.map pairD)
  c : lstAt S C = some (came.map pairD)
  LG : L ≠ G
  LC : L ≠ C
  GC : G ≠ C
section
variable {S : Store} {s L G C : Nat} {w : Str} {lots gone came : Lots} (H : SA S s L G C w lots gone came)
include H
theorem SA.sL : s ≠ L := ne_lst_ins H.l H.ins
theorem SA.sG : s ≠ G := ne_lst_ins H.g H.ins
theorem SA.sC : s ≠ C := ne_lst_ins H.c H.ins
theorem SA.app {T : Store} : SA (S ++ T) s L G C w lots gone came := ⟨insAt_keep _ _ H.ins, lstAt_keep _ _ H.l, lstAt_keep _ _ H.g, lstAt_keep _ _ H.c, H.LG, H.LC, H.GC⟩
theorem ins_set_ne {S : Store} {i j : Nat} {o : DO} {x : String × List (Str × D)} (h : insAt S (.obj i) = some x) (ne : i ≠ j) : insAt (S.set j o) (.obj i) = some x := by
  unfold insAt at h ⊢
  dsimp only at h ⊢
  rw [List.getElem?_set_ne (Ne.symm ne)]
  exact h
theorem SA.setL (zs : Lots) : SA (S.set L (.lst (zs.map pairD))) s L G C w zs gone came :=
  ⟨ins_set_ne H H.ins H.sL, set_lst_eq H.l, set_lst_ne H.g (Ne.symm H.LG), set_lst_ne H.c (Ne.symm H.LC), H.LG, H.LC, H.GC⟩
theorem SA.setG (zs : Lots) : SA (S.set G (.lst (zs.map pairD))) s L G C w lots zs came :=
  ⟨ins_set_ne H H.ins H.sG, set_lst_ne H.l H.LG, set_lst_eq H.g, set_lst_ne H.c (Ne.symm H.GC), H.LG, H.LC, H.GC⟩
theorem SA.setC (zs : Lots) : SA (S.set C (.lst (zs.map pairD))) s L G C w lots gone zs :=
  ⟨ins_set_ne H H.ins H.sC, set_lst_ne H.l H.LC, set_lst_ne H.g H.GC, set_lst_eq H.c, H.LG, H.LC, H.GC⟩
/-- a new list of lots -/
theorem SA.newL {L' : Nat} {zs : Lots} (h : lstAt S L' = some (zs.map pairD)) (h1 : L' ≠ G) (h2 : L' ≠ C) : SA (S.set s (.ins "Stock" (stF w L' G C))) s L' G C w zs gone came := by
  have ls := lt_of_ins H.ins
  have sl : s ≠ L' := ne_lst_ins h H.ins
  refine ⟨?_, ?_, ?_, ?_, h1, h2, H.GC⟩
  · unfold insAt
    dsimp only
    rw [List.getElem?_set_self ls]
  all_goals unfold lstAt
  · rw [List.getElem?_set_ne sl]; exact h
  · rw [List.getElem?_set_ne H.sG]; exact H.g
  · rw [List.getElem?_set_ne H.sC]; exact H.c
theorem there_ok : M_Stock_there [.obj s] S = .ok (.int (s1 lots)) S := by
  have hl := H.l
  have z : sumL (grdL L (lots.map pairD)) (gT 2 (gsCons (gN 1) (gsCons (gN 2) gsNil))) dYes (dVar 1) [some (.obj s), none, none] (lots.map pairD) 0 S = .ok (s1 lots) S := by
    have := sumL_map (S := S) (grd := grdL L (lots.map pairD)) (tg := gT 2 (gsCons (gN 1) (gsCons (gN 2) gsNil))) (tt := dYes) (fe := dVar 1) (ρ := [some (.obj s), none, none]) (a := pairD) (f := (·.1)) (grdL_iff.mpr hl) lots 0 (fun x hx => ⟨[some (.obj s), some (.int x.1), some (.int x.2)], by simp [pairD], rfl, rfl⟩)
    rw [Int.zero_add] at this
    exact this
  simp -implicitDefEqProofs only [M_Stock_there, e_runD, f_Stock_there]
  simp -implicitDefEqProofs [startD, H.ins, hl, z]
theorem worth_ok : M_Stock_worth [.obj s] S = .ok (.int (s2 lots)) S := by
  have hl := H.l
  have z : sumL (grdL L (lots.map pairD)) (gT 2 (gsCons (gN 1) (gsCons (gN 2) gsNil))) dYes (dVar 2) [some (.obj s), none, none] (lots.map pairD) 0 S = .ok (s2 lots) S := by
    have := sumL_map (S := S) (grd := grdL L (lots.map pairD)) (tg := gT 2 (gsCons (gN 1) (gsCons (gN 2) gsNil))) (tt := dYes) (fe := dVar 2) (ρ := [some (.obj s), none, none]) (a := pairD) (f := (·.2)) (grdL_iff.mpr hl) lots 0 (fun x hx => ⟨[some (.obj s), some (.int x.1), some (.int x.2)], by simp [pairD], rfl, rfl⟩)
    rw [Int.zero_add] at this
    exact this
  simp -implicitDefEqProofs only [M_Stock_worth, e_runD, f_Stock_worth]
  simp -implicitDefEqProofs [startD, H.ins, hl, z]
theorem look_ok (h1 : s1 came = s1 lots + s1 gone) (h2 : s2 came = s2 lots + s2 gone) : M_Stock_look [.obj s] S = .ok (.bl true) S := by
  have hg := H.g
  have hc := H.c
  have z : ∀ {n : Nat} {ps : Lots} (x1 : Option D), lstAt S n = some (ps.map pairD) → 
      sumL (grdL n (ps.map pairD)) (gT 2 (gsCons (gN 3) (gsCons (gN 4) gsNil))) dYes (dVar 3) [some (.obj s), x1, none, none, none] (ps.map pairD) 0 S = .ok (s1 ps) S ∧
      sumL (grdL n (ps.map pairD)) (gT 2 (gsCons (gN 3) (gsCons (gN 4) gsNil))) dYes (dVar 4) [some (.obj s), x1, none, none, none] (ps.map pairD) 0 S = .ok (s2 ps) S := fun {n ps} x1 h => by
    have t1 := sumL_map (S := S) (grd := grdL n (ps.map pairD)) (tg := gT 2 (gsCons (gN 3) (gsCons (gN 4) gsNil))) (tt := dYes) (fe := dVar 3) (ρ := [some (.obj s), x1, none, none, none]) (a := pairD) (f := (·.1)) (grdL_iff.mpr h) ps 0 (fun x hx => ⟨[some (.obj s), x1, none, some (.int x.1), some (.int x.2)], by simp [pairD], rfl, rfl⟩)
    have t2 := sumL_map (S := S) (grd := grdL n (ps.map pairD)) (tg := gT 2 (gsCons (gN 3) (gsCons (gN 4) gsNil))) (tt := dYes) (fe := dVar 4) (ρ := [some (.obj s), x1, none, none, none]) (a := pairD) (f := (·.2)) (grdL_iff.mpr h) ps 0 (fun x hx => ⟨[some (.obj s), x1, none, some (.int x.1), some (.int x.2)], by simp [pairD], rfl, rfl⟩)
    rw [Int.zero_add] at t1 t2
    exact ⟨t1, t2⟩
  have zc := z none hc
  have zg := z (some (.tup [.int (s1 lots + s1 gone), .int (s2 lots + s2 gone)])) hg
  simp -implicitDefEqProofs only [M_Stock_look, e_runD, f_Stock_look]
  simp -implicitDefEqProofs [startD, H.ins, hc, hg, zc.1, zc.2, zg.1, zg.2, there_ok H, worth_ok H, eqD_pair, h1, h2]
end
end Pr
set_option Elab.async false
set_option linter.all false
set_option maxRecDepth 100000
set_option maxHeartbeats 1000000
namespace Pr
open PySem PySem.Spec PyProof.Rows L2 DL
inductive Wy where
  | first | last | mean
deriving DecidableEq
def wS : Wy → Str
  | .first => "first"
  | .last => "last"
  | .mean => "mean"
theorem sh_w (y : Wy) : SeqAt.shaped (.str (wS y)) = true := by cases y <;> decide +kernel
theorem eq_mean (y : Wy) (S : Store) : eqD (.str (wS y)) (.str "mean") S = some (.bl (decide (y = .mean)), S) := by
  show eqD (.str (wS y)) (.str (wS .mean)) S = _
  rw [eqD_str (sh_w y) (sh_w .mean)]
  cases y <;> rfl
theorem eq_last (y : Wy) (S : Store) : eqD (.str (wS y)) (.str "last") S = some (.bl (decide (y = .last)), S) := by
  show eqD (.str (wS y)) (.str (wS .last)) S = _
  rw [eqD_str (sh_w y) (sh_w .last)]
  cases y <;> rfl
def comeF (y : Wy) (lots : Lots) (k v : Int) : Lots := if y = .mean then (match lots with
  | [] => [(k, v)]
  | z :: _ => [(z.1 + k, z.2 + v)]) else lots ++ [(k, v)]
theorem come_ok {S : Store} {s L G C : Nat} {y : Wy} {lots gone came : Lots} {k v : Int} (H : SA S s L G C (wS y) lots gone came) (hk : 1 ≤ k) (hv : 0 ≤ v) (hc : came.length < 1000000) (hl : lots.length < 1000000) :
    ∃ L' S', M_Stock_come [.obj s, .int k, .int v] S = .ok .non S' ∧ SA S' s L' G C (wS y) (comeF y lots k v) gone (came ++ [(k, v)]) ∧ Ch [s, L, G, C] S S' ∧ (L' = L ∨ S.length ≤ L') := by
  have k1 : ¬ k < 1 := by omega
  have v1 : ¬ v < 0 := by omega
  have H1 := H.setC (came ++ [(k, v)])
  obtain ⟨S1, hS1⟩ : ∃ S1, S.set C (DO.lst ((came ++ [(k, v)]).map pairD)) = S1 := ⟨_, rfl⟩
  have l1 : S1.length = S.length := by rw [← hS1]; simp
  have c1 : Ch [s, L, G, C] S S1 := by rw [← hS1]; exact Ch.set (by simp)
  rw [hS1] at H1
  rw [List.map_append, List.map_cons, List.map_nil] at hS1
  have ap : pairD (k, v) = .tup [.int k, .int v] := rfl
  rw [ap] at hS1
  by_cases hm : y = .mean
  · subst hm
    cases lots with
    | nil =>
      have n0 := told_pr.nil (S := S1 ++ [.lst []]) (n := L) (m := S1.length) (H1.app.l) (by simp)
      have H2 := (H1.app (T := [.lst []])).setL [(k, v)]
      refine ⟨L, _, ?_, H2, (c1.trans Ch.app).trans (Ch.set (by simp)), Or.inl rfl⟩
      have q1 := (H1.app (T := [.lst []])).l
      rw [List.map_nil] at q1
      simp -implicitDefEqProofs only [M_Stock_come, e_runD, f_Stock_come]
      simp -implicitDefEqProofs [startD, k1, v1, H.ins, H.c, hc, hS1, H1.ins, eq_mean, n0.2, (H1.app (T := [.lst []])).ins, q1, pairD]
    | cons z r =>
      have n0 := told_pr.nil (S := S1 ++ [.lst []]) (n := L) (m := S1.length) (H1.app.l) (by simp)
      have A := H1.app (T := [.lst []])
      have q1 := A.l
      rw [List.map_cons] at q1
      have lL := lt_of_lst H1.g
      have lC := lt_of_lst H1.c
      have B := A.app (T := [.lst [.tup [.int (z.1 + k), .int (z.2 + v)]]])
      have H2 := B.newL (L' := (S1 ++ [DO.lst []]).length) (zs := [(z.1 + k, z.2 + v)]) (by simp [pairD]) (by simp; omega) (by simp; omega)
      refine ⟨(S1 ++ [DO.lst []]).length, _, ?_, H2, ((c1.trans Ch.app).trans Ch.app).trans (Ch.set (by simp)), Or.inr (by simp; omega)⟩
      have i2 := B.ins
      rw [List.append_assoc, List.singleton_append] at i2
      simp -implicitDefEqProofs only [M_Stock_come, e_runD, f_Stock_come]
      simp -implicitDefEqProofs [startD, k1, v1, H.ins, H.c, hc, hS1, H1.ins, eq_mean, n0.2, A.ins, q1, pairD, i2]
  · have H2 := H1.setL (lots ++ [(k, v)])
    have cf : comeF y lots k v = lots ++ [(k, v)] := if_neg hm
    rw [cf]
    refine ⟨L, _, ?_, H2, c1.trans (Ch.set (by simp)), Or.inl rfl⟩
    simp -implicitDefEqProofs only [M_Stock_come, e_runD, f_Stock_come]
    simp -implicitDefEqProofs [startD, k1, v1, H.ins, H.c, hc, hS1, H1.ins, eq_mean, hm, H1.l, hl, pairD]
end Pr
set_option Elab.async false
set_option linter.all false
set_option maxRecDepth 100000
set_option maxHeartbeats 1000000
namespace Pr
open PySem PySem.Spec PyProof.Rows L2 DL
/-! ### taking from lots, one after another -/
def takeF : Lots → Int → Int × Lots
  | [], _ => (0, [])
  | (m, v) :: r, t => if t ≤ 0 then (0, (m, v) :: r) else if m ≤ t then (v + (takeF r (t - m)).1, (takeF r (t - m)).2) else (hu (v * t) m, (m - t, v - hu (v * t) m) :: r)
def Okl (xs : Lots) : Prop := ∀ z ∈ xs, 0 < z.1 ∧ z.1 < 2 ^ 40 ∧ 0 ≤ z.2 ∧ z.2 < 2 ^ 40
theorem Okl.tail {z : Int × Int} {r : Lots} (h : Okl (z :: r)) : Okl r := fun x hx => h x (List.mem_cons_of_mem _ hx)
theorem Okl.head {z : Int × Int} {r : Lots} (h : Okl (z :: r)) : 0 < z.1 ∧ z.1 < 2 ^ 40 ∧ 0 ≤ z.2 ∧ z.2 < 2 ^ 40 := h z List.mem_cons_self
theorem hu_part {v t m : Int} (h0 : 0 ≤ v) (h1 : 0 ≤ t) (h2 : t ≤ m) (hm : 0 < m) : 0 ≤ hu (v * t) m ∧ hu (v * t) m ≤ v := by
  have a := Int.mul_nonneg h0 h1
  have b : v * t ≤ v * m := Int.mul_le_mul_of_nonneg_left h2 h0
  refine ⟨hu_nn a hm, ?_⟩
  unfold hu
  have : (2 * (v * t) + m) / (2 * m) < v + 1 := by
    rw [Int.ediv_lt_iff_lt_mul (by omega)]
    rw [Int.add_mul, Int.one_mul, show v * (2 * m) = 2 * (v * m) by rw [Int.mul_left_comm]]
    omega
  omega
theorem take_zero (xs : Lots) : takeF xs 0 = (0, xs) := by
  cases xs with
  | nil => rfl
  | cons z r => obtain ⟨m, v⟩ := z; rw [takeF, if_pos (Int.le_refl 0)]
theorem take_facts : ∀ (xs : Lots) (t : Int), Okl xs → 0 ≤ t → t ≤ s1 xs → Okl (takeF xs t).2 ∧ s1 (takeF xs t).2 = s1 xs - t ∧ s2 (takeF xs t).2 = s2 xs - (takeF xs t).1 ∧ 0 ≤ (takeF xs t).1 ∧ (takeF xs t).2.length ≤ xs.length
  | [], t, h, h0, h1 => by
    rw [s1_nil] at h1
    rw [takeF]
    refine ⟨h, ?_, ?_, ?_, ?_⟩ <;> simp
    omega
  | (m, v) :: r, t, h, h0, h1 => by
    have hh := h.head
    dsimp only at hh
    rw [s1_cons] at h1
    dsimp only at h1
    rw [takeF]
    split
    · have : t = 0 := by omega
      subst this
      refine ⟨h, ?_, ?_, ?_, ?_⟩ <;> simp
    · split
      · obtain ⟨a, b, c, d, e⟩ := take_facts r (t - m) h.tail (by omega) (by omega)
        refine ⟨a, ?_, ?_, ?_, ?_⟩
        · rw [b, s1_cons]; dsimp only; omega
        · rw [c, s2_cons]; dsimp only; omega
        · dsimp only; omega
        · rw [List.length_cons]; dsimp only; omega
      · obtain ⟨p1, p2⟩ := hu_part (v := v) (t := t) (m := m) hh.2.2.1 h0 (by omega) hh.1
        refine ⟨fun z hz => ?_, ?_, ?_, p1, ?_⟩
        · rcases List.mem_cons.mp hz with rfl | hz
          · dsimp only; omega
          · exact h.tail z hz
        · rw [s1_cons, s1_cons]; dsimp only; omega
        · rw [s2_cons, s2_cons]; dsimp only; omega
        · simp
def ordL (b : Bool) (xs : Lots) : Lots := if b = true then xs.reverse else xs
def kI (b : Bool) : Int := if b = true then -1 else 0
theorem ord_ord (b : Bool) (xs : Lots) : ordL b (ordL b xs) = xs := by cases b <;> simp [ordL]
theorem ord_s1 (b : Bool) (xs : Lots) : s1 (ordL b xs) = s1 xs := by cases b <;> simp [ordL, s1_rev]
theorem ord_s2 (b : Bool) (xs : Lots) : s2 (ordL b xs) = s2 xs := by cases b <;> simp [ordL, s2_rev]
theorem ord_len (b : Bool) (xs : Lots) : (ordL b xs).length = xs.length := by cases b <;> simp [ordL]
theorem ord_okl {b : Bool} {xs : Lots} (h : Okl xs) : Okl (ordL b xs) := fun z hz => h z (by cases b <;> simpa [ordL] using hz)
/-! what a list of lots does at its end -/
theorem end_idx (n : Nat) : ixN (n + 1) (-1) = some n := by
  unfold ixN
  simp
  omega
theorem end_seq (n : Nat) : seqIndex? (-1) (n + 1) = some n := by
  unfold seqIndex?
  simp
  omega
theorem ord_at (b : Bool) (z : Int × Int) (r : Lots) : atI ((ordL b (z :: r)).map pairD) (kI b) = some (pairD z) := by
  cases b with
  | false =>
    show atI ((z :: r).map pairD) ((0 : Nat) : Int) = _
    rw [DL.atI_nat]
    rfl
  | true =>
    simp only [ordL, if_true, List.reverse_cons, List.map_append, List.map_cons, List.map_nil, kI]
    unfold atI
    rw [List.length_append, List.length_singleton, end_idx]
    simp
theorem ord_pop (b : Bool) (z : Int × Int) (r : Lots) (S : Store) (h : r.length < 1000000) : pop1D S ((ordL b (z :: r)).map pairD) (.int (kI b)) = some (pairD z, (ordL b r).map pairD) := by
  cases b with
  | false =>
    simp only [ordL, kI, Bool.false_eq_true, if_false, List.map_cons]
    unfold pop1D
    dsimp only
    rw [if_pos (by decide), List.length_cons]
    have : seqIndex? 0 ((r.map pairD).length + 1) = some 0 := by unfold seqIndex?; simp
    rw [this]
    rfl
  | true =>
    simp only [ordL, kI, if_true, List.reverse_cons, List.map_append, List.map_cons, List.map_nil]
    unfold pop1D
    dsimp only
    rw [if_pos (by decide), List.length_append, List.length_singleton, end_seq]
    dsimp only
    rw [List.getElem?_append_right (Nat.le_refl _), Nat.sub_self, List.eraseIdx_append_of_length_le (Nat.le_refl _), Nat.sub_self]
    simp
theorem ord_set (b : Bool) (z z' : Int × Int) (r : Lots) : ∃ j, ixN ((ordL b (z :: r)).map pairD).length (kI b) = some j ∧ ((ordL b (z :: r)).map pairD).set j (pairD z') = (ordL b (z' :: r)).map pairD := by
  cases b with
  | false => exact ⟨0, by unfold ixN; simp [ordL, kI], rfl⟩
  | true =>
    simp only [ordL, kI, if_true, List.reverse_cons, List.map_append, List.map_cons, List.map_nil]
    refine ⟨(r.reverse.map pairD).length, ?_, ?_⟩
    · rw [List.length_append, List.length_singleton, end_idx]
    · simp
end Pr
set_option Elab.async false
set_option linter.all false
set_option maxRecDepth 100000
set_option maxHeartbeats 1000000
namespace Pr
open PySem PySem.Spec PyProof.Rows L2 DL
/-! ### what goes from a stock -/
def goB : DS := (dSeq (dAsg (dIf (dB (dOp eqD (dFld ["Stock"] "way" (dVar 0)) (dC (.str "last")))) (dUn negD (dC (.int 1))) (dC (.int 0))) (gN 5))
  (dSeq (dAsg (dOp ixD (dFld ["Stock"] "lots" (dVar 0)) (dVar 5)) (gT 2 (gsCons (gN 6) (gsCons (gN 7) gsNil))))
  (dIfS (dB (dOp leD (dVar 6) (dVar 3)))
  (dSeq (dAug 4 iaddD (dVar 7))
  (dSeq (dAug 3 isubD (dVar 6))
  (dDrop (dLM1 pop1D (dFld ["Stock"] "lots" (dVar 0)) (dVar 5)))))
  (dSeq (dAsg (dCall 2 M_rounded (daCons (dCall 2 M_part (daCons (dOp mulD (dVar 7) (dVar 3)) (daCons (dVar 6) daNil))) (daCons (dC (.str "half up")) daNil))) (gN 8))
  (dSeq (dAug 4 iaddD (dVar 8))
  (dSeq (dAsg (dTup (daCons (dOp subD (dVar 6) (dVar 3)) (daCons (dOp subD (dVar 7) (dVar 8)) daNil))) (gIx (dFld ["Stock"] "lots" (dVar 0)) (dVar 5)))
  (dAsg (dC (.int 0)) (gN 3))))))))
def isLast (y : Wy) : Bool := decide (y = .last)
theorem go_loop {e : Nat} {s L G C : Nat} {y : Wy} {gone came : Lots} {x1 x2 : Option D} : ∀ (xs : Lots) (t w : Int) (S : Store) (u5 u6 u7 u8 : Option D), SA S s L G C (wS y) (ordL (isLast y) xs) gone came → Okl xs → 0 ≤ t → t ≤ s1 xs → xs.length < 1000000 →
    ∃ v3 v5 v6 v7 v8 S', whileD (dB (dOp gtD (dVar 3) (dC (.int 0)))) goB (xs.length + 1 + e) [some (.obj s), x1, x2, some (.int t), some (.int w), u5, u6, u7, u8] S = .nx [some (.obj s), x1, x2, v3, some (.int (w + (takeF xs t).1)), v5, v6, v7, v8] S' ∧
      SA S' s L G C (wS y) (ordL (isLast y) (takeF xs t).2) gone came ∧ Ch [s, L, G, C] S S'
  | [], t, w, S, u5, u6, u7, u8, H, O, h0, h1, hl => by
    rw [s1_nil] at h1
    have c : ¬ 0 < t := by omega
    refine ⟨some (.int t), u5, u6, u7, u8, S, ?_, H, Ch.refl⟩
    rw [List.length_nil, Nat.zero_add, Nat.add_comm 1 e, whileD_go, takeF]
    simp -implicitDefEqProofs [c]
  | (m, v) :: r, t, w, S, u5, u6, u7, u8, H, O, h0, h1, hl => by
    have hh := O.head
    dsimp only at hh
    rw [s1_cons] at h1
    dsimp only at h1
    rw [List.length_cons] at hl
    rw [List.length_cons, show r.length + 1 + 1 + e = (r.length + 1 + e) + 1 by omega, whileD_go]
    have hi := H.ins
    have hL := H.l
    have at1 := ord_at (isLast y) (m, v) r
    have ki : ∀ S, (if decide (y = Wy.last) = true then (Out.ok (D.int (-1)) S) else Out.ok (D.int 0) S) = .ok (.int (kI (isLast y))) S := fun S => by
      unfold kI isLast
      cases y <;> rfl
    have pz : pairD (m, v) = .tup [.int m, .int v] := rfl
    rw [pz] at at1
    by_cases c0 : t ≤ 0
    · have t0 : t = 0 := by omega
      subst t0
      refine ⟨some (.int 0), u5, u6, u7, u8, S, ?_, by rw [take_zero]; exact H, Ch.refl⟩
      rw [take_zero]
      simp -implicitDefEqProofs
    · have c1 : 0 < t := by omega
      by_cases c2 : m ≤ t
      · have pp := ord_pop (isLast y) (m, v) r S (by omega)
        have H1 := H.setL (ordL (isLast y) r)
        obtain ⟨v3, v5, v6, v7, v8, S', z, H2, k2⟩ := go_loop (e := e) (x1 := x1) (x2 := x2) r (t - m) (w + v) _ (some (.int (kI (isLast y)))) (some (.int m)) (some (.int v)) u8 H1 O.tail (by omega) (by omega) (by omega)
        refine ⟨v3, v5, v6, v7, v8, S', ?_, ?_, (Ch.set (by simp)).trans k2⟩
        · rw [takeF, if_neg c0, if_pos c2]
          dsimp only
          rw [← Int.add_assoc, ← z]
          simp -implicitDefEqProofs [-decide_eq_true_eq, goB, hi, eq_last, ki, hL, at1, c1, c2, pp]
        · rw [takeF, if_neg c0, if_pos c2]
          exact H2
      · have vs : v.natAbs < 18446744073709551616 := by omega
        have mt : v * t ≤ v * m := Int.mul_le_mul_of_nonneg_left (by omega) hh.2.2.1
        have vt := Int.mul_nonneg hh.2.2.1 h0
        have b1 : (v * t).natAbs < 2 ^ 90 := by
          have := mul_lt_pow (a := v.natAbs) (b := t.natAbs) (m := 40) (n := 40) (by omega) (by omega)
          rw [← Int.natAbs_mul] at this
          exact lt_up this (by decide)
        have b2 : m.natAbs < 2 ^ 90 := by omega
        have p1 := part_small (t := v * t) (b := m) (by omega) b1 b2 S
        have p2 := rounded_part (t := v * t) (b := m) (by omega) vt b1 b2 S
        obtain ⟨j, j1, j2⟩ := ord_set (isLast y) (m, v) (m - t, v - hu (v * t) m) r
        have pz2 : pairD (m - t, v - hu (v * t) m) = .tup [.int (m - t), .int (v - hu (v * t) m)] := rfl
        rw [pz2] at j2
        rw [List.length_map] at j1
        have H1 := H.setL (ordL (isLast y) ((m - t, v - hu (v * t) m) :: r))
        refine ⟨some (.int 0), some (.int (kI (isLast y))), some (.int m), some (.int v), some (.int (hu (v * t) m)), S.set L (.lst ((ordL (isLast y) ((m - t, v - hu (v * t) m) :: r)).map pairD)), ?_, ?_, Ch.set (by simp)⟩
        · rw [takeF, if_neg c0, if_neg c2]
          dsimp only
          rw [show r.length + 1 + e = (r.length + e) + 1 by omega]
          simp -implicitDefEqProofs [-decide_eq_true_eq, goB, hi, eq_last, ki, hL, at1, c1, c2, mulD_l vs, p1, p2, j1, j2]
          rw [whileD_go]
          simp -implicitDefEqProofs
        · rw [takeF, if_neg c0, if_neg c2]
          exact H1
end Pr
set_option Elab.async false
set_option linter.all false
set_option maxRecDepth 100000
set_option maxHeartbeats 1000000
namespace Pr
open PySem PySem.Spec PyProof.Rows L2 DL
def goL : DS := whileD (dB (dOp gtD (dVar 3) (dC (.int 0)))) goB fuel
theorem go_ok {S : Store} {s L G C : Nat} {y : Wy} {lots gone came : Lots} {k : Int} (H : SA S s L G C (wS y) lots gone came) (O : Okl lots) (hk : 1 ≤ k) (hk2 : k ≤ s1 lots) (hl : lots.length < 1000) (hg : gone.length < 1000000) :
    ∃ S', M_Stock_go [.obj s, .int k] S = .ok (.int (takeF (ordL (isLast y) lots) k).1) S' ∧ SA S' s L G C (wS y) (ordL (isLast y) (takeF (ordL (isLast y) lots) k).2) (gone ++ [(k, (takeF (ordL (isLast y) lots) k).1)]) came ∧ Ch [s, L, G, C] S S' := by
  have k1 : ¬ k < 1 := by omega
  have k2 : ¬ s1 lots < k := by omega
  have th := there_ok H
  have H0 : SA S s L G C (wS y) (ordL (isLast y) (ordL (isLast y) lots)) gone came := by rw [ord_ord]; exact H
  have len := ord_len (isLast y) lots
  obtain ⟨v3, v5, v6, v7, v8, S1, z, H1, c1⟩ := go_loop (e := 1000000 - (lots.length + 1)) (x1 := some (.int k)) (x2 := some (.int (s1 lots))) (ordL (isLast y) lots) k 0 S none none none none H0 (ord_okl O) (by omega) (by rw [ord_s1]; exact hk2) (by omega)
  rw [len, show lots.length + 1 + (1000000 - (lots.length + 1)) = fuel by unfold fuel; omega] at z
  rw [show whileD (dB (dOp gtD (dVar 3) (dC (.int 0)))) goB fuel = goL from rfl, Int.zero_add] at z
  generalize takeF (ordL (isLast y) lots) k = tk at z H1 ⊢
  have H2 := H1.setG (gone ++ [(k, tk.1)])
  refine ⟨S1.set G (.lst ((gone ++ [(k, tk.1)]).map pairD)), ?_, H2, c1.trans (Ch.set (by simp))⟩
  have e : M_Stock_go = runD 9 (dSeq (dAsg (dMeth "Stock" "there" 1 M_Stock_there (dVar 0) daNil) (gN 2))
    (dSeq (dIfS (dB (dOp ltD (dVar 1) (dC (.int 1)))) (dRaise "BadRule") dNext)
    (dSeq (dIfS (dB (dOp gtD (dVar 1) (dVar 2))) (dRaiseI "Short" (dOp subD (dVar 1) (dVar 2))) dNext)
    (dSeq (dPar2 3 4 (daCons (dVar 1) (daCons (dC (.int 0)) daNil)))
    (dSeq goL
    (dSeq (dDrop (dApp (dFld ["Stock"] "gone" (dVar 0)) (dTup (daCons (dVar 1) (daCons (dVar 4) daNil)))))
    (dRet (dVar 4)))))))) := rfl
  rw [e, e_runD]
  simp -implicitDefEqProofs [startD, H.ins, th, k1, k2, z, H1.ins, H1.g, hg, pairD]
theorem go_short {S : Store} {s L G C : Nat} {y : Wy} {lots gone came : Lots} {k : Int} (H : SA S s L G C (wS y) lots gone came) (hk : 1 ≤ k) (hk2 : s1 lots < k) : M_Stock_go [.obj s, .int k] S = .exn ⟨"Short"⟩ S := by
  have k1 : ¬ k < 1 := by omega
  have th := there_ok H
  have e : M_Stock_go = runD 9 (dSeq (dAsg (dMeth "Stock" "there" 1 M_Stock_there (dVar 0) daNil) (gN 2))
    (dSeq (dIfS (dB (dOp ltD (dVar 1) (dC (.int 1)))) (dRaise "BadRule") dNext)
    (dSeq (dIfS (dB (dOp gtD (dVar 1) (dVar 2))) (dRaiseI "Short" (dOp subD (dVar 1) (dVar 2))) dNext)
    (dSeq (dPar2 3 4 (daCons (dVar 1) (daCons (dC (.int 0)) daNil)))
    (dSeq goL
    (dSeq (dDrop (dApp (dFld ["Stock"] "gone" (dVar 0)) (dTup (daCons (dVar 1) (daCons (dVar 4) daNil)))))
    (dRet (dVar 4)))))))) := rfl
  rw [e, e_runD]
  simp -implicitDefEqProofs [startD, H.ins, th, k1, hk2]
/-! ### the law's own cutting -/
def cutB : DS := (dSeq (dAsg (dOp ixD (dVar 3) (dIf (dB (dVar 2)) (dOp subD (dBlt lenD (daCons (dVar 3) daNil)) (dC (.int 1))) (dC (.int 0)))) (gT 2 (gsCons (gN 5) (gsCons (gN 6) gsNil))))
  (dSeq (dAsg (dBlt minD (daCons (dVar 5) (daCons (dVar 1) daNil))) (gN 7))
  (dSeq (dAsg (dIf (dB (dOp eqD (dVar 7) (dVar 5))) (dVar 6) (dOp fdivD (dOp addD (dOp mulD (dOp mulD (dC (.int 2)) (dVar 6)) (dVar 7)) (dVar 5)) (dOp mulD (dC (.int 2)) (dVar 5)))) (gN 8))
  (dSeq (dPar2 4 1 (daCons (dOp addD (dVar 4) (dVar 8)) (daCons (dOp subD (dVar 1) (dVar 7)) daNil)))
  (dSeq (dAsg (dIf (dB (dOp ltD (dVar 7) (dVar 5))) (dLst (daCons (dTup (daCons (dOp subD (dVar 5) (dVar 7)) (daCons (dOp subD (dVar 6) (dVar 8)) daNil))) daNil)) (dLst daNil)) (gN 9))
  (dAsg (dIf (dB (dVar 2)) (dOp addD (dSl (dVar 3) dpNone (dpSome (dOp subD (dBlt lenD (daCons (dVar 3) daNil)) (dC (.int 1))))) (dVar 9)) (dOp addD (dVar 9) (dSl (dVar 3) (dpSome (dC (.int 1))) dpNone))) (gN 3)))))))
theorem slice_obj {n : Nat} {xs : List D} {lo hi : Option Int} {S : Store} (h : lstAt S n = some xs) : sliceD (.obj n) lo hi S = some (.obj S.length, S ++ [.lst (cutD xs lo hi)]) := by
  unfold sliceD
  dsimp only
  rw [h, Option.map_some]
  rfl
def cutN (m v t : Int) (r : Lots) : Lots := if m ≤ t then r else (m - t, v - hu (v * t) m) :: r
def cutW (m v t : Int) : Int := if m ≤ t then v else hu (v * t) m
theorem cut_step {b : Bool} {n : Nat} {m v t w : Int} {r : Lots} {S : Store} {x0 u5 u6 u7 u8 u9 : Option D} (hn : lstAt S n = some ((ordL b ((m, v) :: r)).map pairD)) (ht : 0 < t) (h1 : 0 < m) (h2 : m < 2 ^ 40) (h3 : 0 ≤ v) (h4 : v < 2 ^ 40) (hr : r.length < 1000) :
    ∃ n' t' v5 v6 v7 v8 v9 S', cutB [x0, some (.int t), some (.bl b), some (.obj n), some (.int w), u5, u6, u7, u8, u9] S = .nx [x0, some (.int t'), some (.bl b), some (.obj n'), some (.int (w + cutW m v t)), v5, v6, v7, v8, v9] S' ∧
      t' = (if m ≤ t then t - m else 0) ∧ lstAt S' n' = some ((ordL b (cutN m v t r)).map pairD) ∧ S.length ≤ n' ∧ ∀ j, Kp j S S' := by
  have kp : ∀ (T : Store) j, Kp j S (S ++ T) := fun T j => Kp.app
  have b1 : (2 * v).natAbs < 18446744073709551616 := by omega
  have b2 : (2 : Int).natAbs < 18446744073709551616 := by decide
  have b3 : (2 * m).natAbs < 18446744073709551616 := by omega
  have hue : (2 * v * t + m) / (2 * m) = hu (v * t) m := by unfold hu; rw [Int.mul_assoc]
  have fd : ∀ S, fdivD (.int (2 * v * t + m)) (.int (2 * m)) S = some (.int (hu (v * t) m), S) := fun S => by rw [fdiv_small (by omega) b3, hue]
  by_cases c : m ≤ t
  · have mn : min m t = m := Int.min_eq_left c
    have cn : cutN m v t r = r := if_pos c
    have cw : cutW m v t = v := if_pos c
    rw [if_pos c, cn, cw]
    cases b with
    | false =>
      simp only [ordL, Bool.false_eq_true, if_false, List.map_cons] at hn ⊢
      have pz : pairD (m, v) = .tup [.int m, .int v] := rfl
      rw [pz] at hn
      have hs1 : lstAt (S ++ [.lst []]) n = some (.tup [.int m, .int v] :: r.map pairD) := lstAt_keep _ _ hn
      have sl := slice_obj (lo := some 1) (hi := none) hs1
      rw [show cutD (D.tup [.int m, .int v] :: r.map pairD) (some 1) none = r.map pairD from cut_drop _ 1] at sl
      rw [List.append_assoc, List.singleton_append] at sl
      have ad := addD_obj (n := S.length) (k := S.length + 1) (S := S ++ [.lst [], .lst (r.map pairD)]) (xs := []) (ys := r.map pairD) (by simp) (by simp) (by simp; omega)
      refine ⟨S.length + 2, t - m, some (.int m), some (.int v), some (.int m), some (.int v), some (.obj S.length), S ++ [.lst [], .lst (r.map pairD), .lst (r.map pairD)], ?_, rfl, by simp, by omega, kp _⟩
      simp at ad sl
      simp -implicitDefEqProofs [cutB, hn, mn, sl, ad]
    | true =>
      simp only [ordL, if_true, List.reverse_cons, List.map_append, List.map_cons, List.map_nil] at hn ⊢
      have pz : pairD (m, v) = .tup [.int m, .int v] := rfl
      rw [pz] at hn
      have hRl : (r.reverse.map pairD).length = r.length := by simp
      generalize r.reverse.map pairD = R at hn hRl ⊢
      have at1 : atI (R ++ [D.tup [.int m, .int v]]) (R.length : Int) = some (.tup [.int m, .int v]) := by rw [DL.atI_nat]; simp
      have hs1 : lstAt (S ++ [.lst []]) n = some (R ++ [D.tup [.int m, .int v]]) := lstAt_keep _ _ hn
      have sl := slice_obj (lo := none) (hi := some (R.length : Int)) hs1
      rw [cut_take, List.take_left' rfl, List.append_assoc, List.singleton_append] at sl
      have ad := addD_obj (n := S.length + 1) (k := S.length) (S := S ++ [.lst [], .lst R]) (xs := R) (ys := []) (by unfold lstAt; rw [List.getElem?_append_right (by omega), show S.length + 1 - S.length = 1 by omega]; rfl) (by simp) (by simp; omega)
      refine ⟨S.length + 2, t - m, some (.int m), some (.int v), some (.int m), some (.int v), some (.obj S.length), S ++ [.lst [], .lst R, .lst R], ?_, rfl, ?_, by omega, kp _⟩
      · simp at ad sl
        simp -implicitDefEqProofs [cutB, hn, hs1, mn, sl, ad, at1]
      · unfold lstAt; rw [List.getElem?_append_right (by omega), show S.length + 2 - S.length = 2 by omega]; rfl
  · have mn : min m t = t := Int.min_eq_right (by omega)
    have cn : cutN m v t r = (m - t, v - hu (v * t) m) :: r := if_neg c
    have cw : cutW m v t = hu (v * t) m := if_neg c
    have tm : t ≠ m := by omega
    have tl : t < m := by omega
    rw [if_neg c, cn, cw]
    cases b with
    | false =>
      simp only [ordL, Bool.false_eq_true, if_false, List.map_cons] at hn ⊢
      have pz : pairD (m, v) = .tup [.int m, .int v] := rfl
      have pz2 : pairD (m - t, v - hu (v * t) m) = .tup [.int (m - t), .int (v - hu (v * t) m)] := rfl
      rw [pz] at hn
      rw [pz2]
      have hs1 : lstAt (S ++ [.lst [.tup [.int (m - t), .int (v - hu (v * t) m)]]]) n = some (.tup [.int m, .int v] :: r.map pairD) := lstAt_keep _ _ hn
      have sl := slice_obj (lo := some 1) (hi := none) hs1
      rw [show cutD (D.tup [.int m, .int v] :: r.map pairD) (some 1) none = r.map pairD from cut_drop _ 1] at sl
      rw [List.append_assoc, List.singleton_append] at sl
      have ad := addD_obj (n := S.length) (k := S.length + 1) (S := S ++ [.lst [.tup [.int (m - t), .int (v - hu (v * t) m)]], .lst (r.map pairD)]) (xs := [.tup [.int (m - t), .int (v - hu (v * t) m)]]) (ys := r.map pairD) (by simp) (by simp) (by simp; omega)
      refine ⟨S.length + 2, t - t, some (.int m), some (.int v), some (.int t), some (.int (hu (v * t) m)), some (.obj S.length), S ++ [.lst [.tup [.int (m - t), .int (v - hu (v * t) m)]], .lst (r.map pairD), .lst (.tup [.int (m - t), .int (v - hu (v * t) m)] :: r.map pairD)], ?_, by omega, by simp, by omega, kp _⟩
      simp at ad sl
      simp -implicitDefEqProofs [cutB, hn, mn, sl, ad, tm, tl, mulD_l b1, mulD_l b2, fd]
    | true =>
      simp only [ordL, if_true, List.reverse_cons, List.map_append, List.map_cons, List.map_nil] at hn ⊢
      have pz : pairD (m, v) = .tup [.int m, .int v] := rfl
      have pz2 : pairD (m - t, v - hu (v * t) m) = .tup [.int (m - t), .int (v - hu (v * t) m)] := rfl
      rw [pz] at hn
      rw [pz2]
      have hRl : (r.reverse.map pairD).length = r.length := by simp
      generalize r.reverse.map pairD = R at hn hRl ⊢
      have at1 : atI (R ++ [D.tup [.int m, .int v]]) (R.length : Int) = some (.tup [.int m, .int v]) := by rw [DL.atI_nat]; simp
      have hs1 : lstAt (S ++ [.lst [.tup [.int (m - t), .int (v - hu (v * t) m)]]]) n = some (R ++ [D.tup [.int m, .int v]]) := lstAt_keep _ _ hn
      have sl := slice_obj (lo := none) (hi := some (R.length : Int)) hs1
      rw [cut_take, List.take_left' rfl, List.append_assoc, List.singleton_append] at sl
      have ad := addD_obj (n := S.length + 1) (k := S.length) (S := S ++ [.lst [.tup [.int (m - t), .int (v - hu (v * t) m)]], .lst R]) (xs := R) (ys := [.tup [.int (m - t), .int (v - hu (v * t) m)]]) (by unfold lstAt; rw [List.getElem?_append_right (by omega), show S.length + 1 - S.length = 1 by omega]; rfl) (by simp) (by simp; omega)
      refine ⟨S.length + 2, t - t, some (.int m), some (.int v), some (.int t), some (.int (hu (v * t) m)), some (.obj S.length), S ++ [.lst [.tup [.int (m - t), .int (v - hu (v * t) m)]], .lst R, .lst (R ++ [.tup [.int (m - t), .int (v - hu (v * t) m)]])], ?_, by omega, ?_, by omega, kp _⟩
      · simp at ad sl
        simp -implicitDefEqProofs [cutB, hn, hs1, mn, sl, ad, at1, tm, tl, mulD_l b1, mulD_l b2, fd]
      · unfold lstAt; rw [List.getElem?_append_right (by omega), show S.length + 2 - S.length = 2 by omega]; rfl
theorem cut_loop {e : Nat} {b : Bool} {x0 : Option D} : ∀ (xs : Lots) (t w : Int) (n : Nat) (S : Store) (u5 u6 u7 u8 u9 : Option D), lstAt S n = some ((ordL b xs).map pairD) → Okl xs → 0 ≤ t → t ≤ s1 xs → xs.length < 1000 →
    ∃ n' v1 v5 v6 v7 v8 v9 S', whileD (dB (dOp gtD (dVar 1) (dC (.int 0)))) cutB (xs.length + 1 + e) [x0, some (.int t), some (.bl b), some (.obj n), some (.int w), u5, u6, u7, u8, u9] S = .nx [x0, v1, some (.bl b), some (.obj n'), some (.int (w + (takeF xs t).1)), v5, v6, v7, v8, v9] S' ∧
      lstAt S' n' = some ((ordL b (takeF xs t).2).map pairD) ∧ min n S.length ≤ n' ∧ ∀ j, Kp j S S'
  | [], t, w, n, S, u5, u6, u7, u8, u9, hn, O, h0, h1, hl => by
    rw [s1_nil] at h1
    have c : ¬ 0 < t := by omega
    refine ⟨n, some (.int t), u5, u6, u7, u8, u9, S, ?_, hn, Nat.min_le_left _ _, fun _ => Kp.refl⟩
    rw [List.length_nil, Nat.zero_add, Nat.add_comm 1 e, whileD_go, takeF]
    simp -implicitDefEqProofs [c]
  | (m, v) :: r, t, w, n, S, u5, u6, u7, u8, u9, hn, O, h0, h1, hl => by
    have hh := O.head
    dsimp only at hh
    rw [s1_cons] at h1
    dsimp only at h1
    rw [List.length_cons] at hl
    rw [List.length_cons, show r.length + 1 + 1 + e = (r.length + 1 + e) + 1 by omega, whileD_go]
    by_cases c0 : t ≤ 0
    · have t0 : t = 0 := by omega
      subst t0
      refine ⟨n, some (.int 0), u5, u6, u7, u8, u9, S, ?_, by rw [take_zero]; exact hn, Nat.min_le_left _ _, fun _ => Kp.refl⟩
      rw [take_zero]
      simp -implicitDefEqProofs
    · have c1 : 0 < t := by omega
      obtain ⟨n1, t1, w5, w6, w7, w8, w9, S1, z1, e1, hn1, nn, k1⟩ := cut_step (w := w) (x0 := x0) (u5 := u5) (u6 := u6) (u7 := u7) (u8 := u8) (u9 := u9) hn c1 hh.1 hh.2.1 hh.2.2.1 hh.2.2.2 (by omega)
      by_cases c2 : m ≤ t
      · rw [if_pos c2] at e1
        rw [show cutN m v t r = r from if_pos c2] at hn1
        rw [show cutW m v t = v from if_pos c2] at z1
        obtain ⟨n', v1, v5, v6, v7, v8, v9, S', z, h2, nn2, k2⟩ := cut_loop (e := e) (x0 := x0) r t1 (w + v) n1 S1 w5 w6 w7 w8 w9 hn1 O.tail (by omega) (by omega) (by omega)
        have kl := (k1 0).len
        rw [e1] at z h2
        refine ⟨n', v1, v5, v6, v7, v8, v9, S', ?_, ?_, by omega, fun j => (k1 j).trans (k2 j)⟩
        · rw [takeF, if_neg c0, if_pos c2]
          dsimp only
          rw [← Int.add_assoc, ← z]
          rw [e1] at z1
          simp -implicitDefEqProofs [c1, z1]
        · rw [takeF, if_neg c0, if_pos c2]
          exact h2
      · rw [if_neg c2] at e1
        rw [show cutN m v t r = (m - t, v - hu (v * t) m) :: r from if_neg c2] at hn1
        rw [show cutW m v t = hu (v * t) m from if_neg c2] at z1
        subst e1
        refine ⟨n1, some (.int 0), w5, w6, w7, w8, w9, S1, ?_, ?_, by omega, k1⟩
        · rw [takeF, if_neg c0, if_neg c2]
          dsimp only
          rw [show r.length + 1 + e = (r.length + e) + 1 by omega]
          simp -implicitDefEqProofs [c1, z1]
          rw [whileD_go]
          simp -implicitDefEqProofs
        · rw [takeF, if_neg c0, if_neg c2]
          exact hn1
end Pr
set_option Elab.async false
set_option linter.all false
set_option maxRecDepth 100000
set_option maxHeartbeats 1000000
namespace Pr
open PySem PySem.Spec PyProof.Rows L2 DL
def cutL : DS := whileD (dB (dOp gtD (dVar 1) (dC (.int 0)))) cutB fuel
theorem cut_ok {S : Store} {n : Nat} {b : Bool} {lots : Lots} {t : Int} (hn : lstAt S n = some (lots.map pairD)) (O : Okl lots) (h0 : 0 ≤ t) (h1 : t ≤ s1 lots) (hl : lots.length < 1000) :
    ∃ n' S', M__law_cut [.obj n, .int t, .bl b] S = .ok (.tup [.int (takeF (ordL b lots) t).1, .obj n']) S' ∧ lstAt S' n' = some ((ordL b (takeF (ordL b lots) t).2).map pairD) ∧ S.length ≤ n' ∧ ∀ j, Kp j S S' := by
  have hc : lstAt (S ++ [.lst (lots.map pairD)]) S.length = some ((ordL b (ordL b lots)).map pairD) := by rw [ord_ord]; simp
  have len := ord_len b lots
  obtain ⟨n', v1, v5, v6, v7, v8, v9, S', z, hn', nn, k⟩ := cut_loop (e := 1000000 - (lots.length + 1)) (x0 := some (.obj n)) (ordL b lots) t 0 S.length (S ++ [.lst (lots.map pairD)]) none none none none none hc (ord_okl O) h0 (by rw [ord_s1]; exact h1) (by omega)
  rw [len, show lots.length + 1 + (1000000 - (lots.length + 1)) = fuel by unfold fuel; omega] at z
  rw [show whileD (dB (dOp gtD (dVar 1) (dC (.int 0)))) cutB fuel = cutL from rfl, Int.zero_add] at z
  rw [List.length_append, List.length_singleton] at nn
  refine ⟨n', S', ?_, hn', by omega, fun j => Kp.app.trans (k j)⟩
  have e : M__law_cut = runD 10 (dSeq (dPar2 3 4 (daCons (dBlt listD (daCons (dVar 0) daNil)) (daCons (dC (.int 0)) daNil))) (dSeq cutL (dRet (dTup (daCons (dVar 4) (daCons (dVar 3) daNil)))))) := rfl
  rw [e, e_runD]
  simp -implicitDefEqProofs [startD, hn, z]
theorem hu_whole {v k : Int} (hk : 0 < k) : hu (v * k) k = v := by
  unfold hu
  have e : 2 * (v * k) + k = k + v * (2 * k) := by rw [Int.mul_left_comm]; omega
  rw [e, Int.add_mul_ediv_right _ _ (by omega), Int.ediv_eq_zero_of_lt (by omega) (by omega)]
  omega
theorem atI_last (xs : List D) (d : D) : atI (xs ++ [d]) (-1) = some d := by
  unfold atI
  rw [List.length_append, List.length_singleton, end_idx]
  simp
theorem come_back_ok {S : Store} {s L G C : Nat} {y : Wy} {lots gone came : Lots} {k v : Int} (H : SA S s L G C (wS y) lots (gone ++ [(k, v)]) came) (hk : 1 ≤ k) (hv : 0 ≤ v) (hk2 : k < 2 ^ 40) (hv2 : v < 2 ^ 40) (hc : came.length < 1000000) (hl : lots.length < 1000000) :
    ∃ L' S', M_Stock_come_back [.obj s, .int k] S = .ok (.int v) S' ∧ SA S' s L' G C (wS y) (comeF y lots k v) gone came ∧ Ch [s, L, G, C] S S' ∧ (L' = L ∨ S.length ≤ L') := by
  have k1 : ¬ k < 1 := by omega
  have kk : ¬ k < k := by omega
  have vs : v.natAbs < 18446744073709551616 := by omega
  have hg := H.g
  rw [List.map_append, List.map_cons, List.map_nil] at hg
  have pz : pairD (k, v) = .tup [.int k, .int v] := rfl
  rw [pz] at hg
  have at1 := atI_last (gone.map pairD) (.tup [.int k, .int v])
  have pp : pop0D (gone.map pairD ++ [D.tup [.int k, .int v]]) = some (.tup [.int k, .int v], gone.map pairD) := by
    unfold pop0D
    simp
  have H0 := H.app (T := [.lst []])
  have ng : neD (.obj G) (.obj S.length) (S ++ [.lst []]) = some (.bl true, S ++ [.lst []]) ∧ eqD (.obj G) (.obj S.length) (S ++ [.lst []]) = some (.bl false, S ++ [.lst []]) := by
    have := told_pr.nil (S := S ++ [.lst []]) (n := G) (m := S.length) H0.g (by simp)
    rw [this.1, this.2]
    simp
  have hg0 := H0.g
  rw [List.map_append, List.map_cons, List.map_nil, pz] at hg0
  have H1 := H0.setG gone
  obtain ⟨S1, hS1⟩ : ∃ S1, (S ++ [DO.lst []]).set G (.lst (gone.map pairD)) = S1 := ⟨_, rfl⟩
  have c1 : Ch [s, L, G, C] S S1 := by rw [← hS1]; exact Ch.app.trans (Ch.set (by simp))
  have ln1 : S.length ≤ S1.length := c1.len
  rw [hS1] at H1
  have vk := Int.mul_nonneg hv (show 0 ≤ k by omega)
  have b1 : (v * k).natAbs < 2 ^ 90 := by
    have := mul_lt_pow (a := v.natAbs) (b := k.natAbs) (m := 40) (n := 40) (by omega) (by omega)
    rw [← Int.natAbs_mul] at this
    exact lt_up this (by decide)
  have b2 : k.natAbs < 2 ^ 90 := by omega
  have p1 := part_small (t := v * k) (b := k) (by omega) b1 b2 S1
  have p2 := rounded_part (t := v * k) (b := k) (by omega) vk b1 b2 S1
  rw [hu_whole (by omega)] at p2
  obtain ⟨L', S2, e2, H2, c2, l2⟩ := come_ok H1 hk hv hc hl
  have pc : pop0D ((came ++ [(k, v)]).map pairD) = some (pairD (k, v), came.map pairD) := by
    rw [List.map_append, List.map_cons, List.map_nil]
    unfold pop0D
    simp
  have H3 := H2.setC came
  refine ⟨L', S2.set C (.lst (came.map pairD)), ?_, H3, (c1.trans c2).trans (Ch.set (by simp)), by omega⟩
  simp -implicitDefEqProofs only [M_Stock_come_back, e_runD, f_Stock_come_back]
  simp -implicitDefEqProofs [-List.map_append, startD, H.ins, H0.ins, hg, hg0, at1, ng.2, k1, kk, pp, hS1, mulD_l vs, p1, p2, H1.ins, e2, H2.ins, H2.c, pc]
end Pr
set_option Elab.async false
set_option linter.all false
set_option maxRecDepth 100000
set_option maxHeartbeats 1000000
namespace Pr
open PySem PySem.Spec PyProof.Rows L2 DL
/-! ### lots brought down to a price -/
def lowF (p : Int) (z : Int × Int) : Int × Int := (z.1, min z.2 (z.1 * p))
def lowB : DS := (dDrop (dApp (dVar 2) (dTup (daCons (dVar 3) (daCons (dBlt minD (daCons (dVar 4) (daCons (dOp mulD (dVar 3) (dVar 1)) daNil))) daNil)))))
def lowL : DS := (dFor (diSeq (dFld ["Stock"] "lots" (dVar 0))) (gT 2 (gsCons (gN 3) (gsCons (gN 4) gsNil))) lowB)
theorem low_loop {S : Store} {grd : Store → Bool} (hg : ∀ T, grd (S ++ T) = true) {x0 u5 : Option D} {p : Int} : ∀ (xs : Lots) (acc : List D) (u3 u4 : Option D), (∀ z ∈ xs, z.1.natAbs < 18446744073709551616) → acc.length + xs.length < 1000000 →
    ∃ v3 v4, forD grd (gT 2 (gsCons (gN 3) (gsCons (gN 4) gsNil))) lowB (xs.map pairD) [x0, some (.int p), some (.obj S.length), u3, u4, u5] (S ++ [.lst acc]) = .nx [x0, some (.int p), some (.obj S.length), v3, v4, u5] (S ++ [.lst (acc ++ (xs.map (lowF p)).map pairD)])
  | [], acc, u3, u4, hb, hl => ⟨u3, u4, by simp [hg]⟩
  | z :: xs, acc, u3, u4, hb, hl => by
    rw [List.length_cons] at hl
    obtain ⟨v3, v4, e⟩ := low_loop hg xs (acc ++ [pairD (lowF p z)]) (some (.int z.1)) (some (.int z.2)) (fun y hy => hb y (List.mem_cons_of_mem _ hy)) (by rw [List.length_append, List.length_singleton]; omega)
    refine ⟨v3, v4, ?_⟩
    have z1 := hb z List.mem_cons_self
    have ha : acc.length < 1000000 := by omega
    rw [List.map_cons, List.map_cons, List.map_cons, show acc ++ pairD (lowF p z) :: (xs.map (lowF p)).map pairD = (acc ++ [pairD (lowF p z)]) ++ (xs.map (lowF p)).map pairD by simp, ← e]
    simp -implicitDefEqProofs [-List.map_map, hg, lowB, pairD, lowF, mulD_l z1, ha]
theorem lowered_ok {S : Store} {s L G C : Nat} {y : Wy} {lots gone came : Lots} {p : Int} (H : SA S s L G C (wS y) lots gone came) (hp : 0 ≤ p) (hb : ∀ z ∈ lots, z.1.natAbs < 18446744073709551616) (hl : lots.length < 1000000) (hc : came.length < 1000000) :
    ∃ L' S', M_Stock_lowered [.obj s, .int p] S = .ok (.int (s2 lots - s2 (lots.map (lowF p)))) S' ∧ SA S' s L' G C (wS y) (lots.map (lowF p)) gone (came ++ [(0, -(s2 lots - s2 (lots.map (lowF p))))]) ∧ Ch [s, L, G, C] S S' := by
  have p0 : ¬ p < 0 := by omega
  have hi := H.ins
  have hL := H.l
  have H0 := H.app (T := [.lst []])
  obtain ⟨v3, v4, z⟩ := low_loop (S := S) (grd := grdL L (lots.map pairD)) (fun T => grdL_iff.mpr (lstAt_keep _ _ hL)) (x0 := some (.obj s)) (u5 := none) (p := p) lots [] none none hb (by simpa using hl)
  rw [List.nil_append] at z
  have zz : lowL [some (.obj s), some (.int p), some (.obj S.length), none, none, none] (S ++ [.lst []]) = .nx [some (.obj s), some (.int p), some (.obj S.length), v3, v4, none] (S ++ [.lst ((lots.map (lowF p)).map pairD)]) := by
    unfold lowL
    simp -implicitDefEqProofs [-List.map_map, H0.ins, H0.l, z]
  obtain ⟨S1, hS1⟩ : ∃ S1 : Store, S ++ [.lst ((lots.map (lowF p)).map pairD)] = S1 := ⟨_, rfl⟩
  have H1 : SA S1 s L G C (wS y) lots gone came := by rw [← hS1]; exact H.app
  have q1 : lstAt S1 S.length = some ((lots.map (lowF p)).map pairD) := by rw [← hS1]; simp
  have w1 := worth_ok H1
  rw [hS1] at zz
  obtain ⟨off, hoff⟩ : ∃ o, s2 lots - s2 (lots.map (lowF p)) = o := ⟨_, rfl⟩
  have sm : sumL (grdL S.length ((lots.map (lowF p)).map pairD)) (gT 2 (gsCons (gN 3) (gsCons (gN 4) gsNil))) dYes (dVar 4) [some (.obj s), some (.int p), some (.obj S.length), none, none, none] ((lots.map (lowF p)).map pairD) 0 S1 = .ok (s2 (lots.map (lowF p))) S1 := by
    have := sumL_map (S := S1) (grd := grdL S.length ((lots.map (lowF p)).map pairD)) (tg := gT 2 (gsCons (gN 3) (gsCons (gN 4) gsNil))) (tt := dYes) (fe := dVar 4) (ρ := [some (.obj s), some (.int p), some (.obj S.length), none, none, none]) (a := pairD) (f := (·.2)) (grdL_iff.mpr q1) (lots.map (lowF p)) 0 (fun x hx => ⟨[some (.obj s), some (.int p), some (.obj S.length), some (.int x.1), some (.int x.2), none], by simp [pairD], rfl, rfl⟩)
    rw [Int.zero_add] at this
    exact this
  have lG := lt_of_lst H.g
  have lC := lt_of_lst H.c
  have H2 := H1.newL (L' := S.length) q1 (by omega) (by omega)
  have H3 := H2.setC (came ++ [(0, -(s2 lots - s2 (lots.map (lowF p))))])
  refine ⟨S.length, _, ?_, H3, (Ch.trans (by rw [← hS1]; exact Ch.app) (Ch.set (by simp))).trans (Ch.set (by simp))⟩
  have e : M_Stock_lowered = runD 6 (dSeq (dIfS (dB (dOp ltD (dVar 1) (dC (.int 0)))) (dRaise "BadRule") dNext)
    (dSeq (dAsg (dLst daNil) (gN 2))
    (dSeq lowL
    (dSeq (dAsg (dOp subD (dMeth "Stock" "worth" 1 M_Stock_worth (dVar 0) daNil) (dSumX (diSeq (dVar 2)) (gT 2 (gsCons (gN 3) (gsCons (gN 4) gsNil))) dYes (dVar 4) [3, 4])) (gN 5))
    (dSeq (dPutF ["Stock"] "lots" (dVar 0) (dVar 2))
    (dSeq (dDrop (dApp (dFld ["Stock"] "came" (dVar 0)) (dTup (daCons (dC (.int 0)) (daCons (dUn negD (dVar 5)) daNil)))))
    (dRet (dVar 5)))))))) := rfl
  rw [e, e_runD, hoff]
  generalize lots.map (lowF p) = low at *
  generalize hpl : low.map pairD = lowD at *
  have zm : (came ++ [((0 : Int), -off)]).map pairD = came.map pairD ++ [.tup [.int 0, .int (-off)]] := by simp [pairD]
  rw [zm]
  simp -implicitDefEqProofs [-List.map_append, startD, p0, zz, H1.ins, w1, q1, sm, hoff, H2.ins, H2.c, hc]
end Pr
set_option Elab.async false
set_option linter.all false
set_option maxRecDepth 100000
set_option maxHeartbeats 1000000
namespace Pr
open PySem PySem.Spec PyProof.Rows L2 DL
def col13 : DE := (dLc (diSeq (dVar 3)) (gT 2 (gsCons (gN 13) (gsCons (gN 14) gsNil))) dYes (dVar 13) [13, 14])
def col14 : DE := (dLc (diSeq (dVar 3)) (gT 2 (gsCons (gN 13) (gsCons (gN 14) gsNil))) dYes (dVar 14) [13, 14])
def turnA : DS := (dAsg (dTup (daCons (dOp addD (dC (.int 1)) (dCall 2 M__law_roll (daCons (dVar 0) (daCons (dC (.int 5)) daNil)))) (daCons (dCall 2 M__law_roll (daCons (dVar 0) (daCons (dC (.int 60)) daNil))) daNil))) (gT 2 (gsCons (gN 5) (gsCons (gN 6) gsNil))))
def comeS : DS := (dSeq (dDrop (dMeth "Stock" "come" 3 M_Stock_come (dVar 2) (daCons (dVar 5) (daCons (dVar 6) daNil))))
  (dAsg (dIf (dAndT (dB (dOp eqD (dVar 1) (dC (.str "mean")))) (dB (dOp neD (dVar 3) (dLst daNil)))) (dLst (daCons (dTup (daCons (dOp addD (dOp ixD (dOp ixD (dVar 3) (dC (.int 0))) (dC (.int 0))) (dVar 5)) (daCons (dOp addD (dOp ixD (dOp ixD (dVar 3) (dC (.int 0))) (dC (.int 1))) (dVar 6)) daNil))) daNil)) (dOp addD (dVar 3) (dLst (daCons (dTup (daCons (dVar 5) (daCons (dVar 6) daNil))) daNil)))) (gN 3)))
def goS : DS := (dSeq (dAsg (dBlt sumLT (daCons col13 daNil)) (gN 7))
  (dSeq (dAsg (dC (.str "short")) (gN 8))
  (dSeq (dIfS (dB (dOp leD (dVar 5) (dVar 7)))
  (dAsg (dCall 3 M__law_cut (daCons (dVar 3) (daCons (dVar 5) (daCons (dOp eqD (dVar 1) (dC (.str "last"))) daNil)))) (gT 2 (gsCons (gN 8) (gsCons (gN 3) gsNil))))
  dNext)
  (dIfS (dB (dOp neD (dTold raisable tellers (dMeth "Stock" "go" 2 M_Stock_go (dVar 2) (daCons (dVar 5) daNil))) (dVar 8)))
  (dRet (dC (.bl false)))
  dNext))))
def chk1 : DS := (dIfS (dOrT (dB (dOp neD (dFld ["Stock"] "lots" (dVar 2)) (dVar 3))) (dOrT (dNotT (dB (dMeth "Stock" "look" 1 M_Stock_look (dVar 2) daNil))) (dB (dOp neD (dMeth "Stock" "there" 1 M_Stock_there (dVar 2) daNil) (dBlt sumLT (daCons col13 daNil))))))
  (dRet (dC (.bl false)))
  dNext)
def chk2 : DS := (dIfS (dB (dOp neD (dMeth "Stock" "worth" 1 M_Stock_worth (dVar 2) daNil) (dBlt sumLT (daCons col14 daNil))))
  (dRet (dC (.bl false)))
  dNext)
def turnB : DS := (dSeq turnA (dSeq (dIfS (dB (dOp gtD (dCall 2 M__law_roll (daCons (dVar 0) (daCons (dC (.int 3)) daNil))) (dC (.int 0)))) comeS goS) (dSeq chk1 chk2)))
def turnL : DS := (dFor (diRange1 (dCall 2 M__law_roll (daCons (dVar 0) (daCons (dC (.int 11)) daNil)))) (gN 4) turnB)
def stockB : DS :=
  (dSeq (dAsg (dOp ixD (dLst (daCons (dC (.str "first")) (daCons (dC (.str "last")) (daCons (dC (.str "mean")) daNil)))) (dCall 2 M__law_roll (daCons (dVar 0) (daCons (dC (.int 3)) daNil)))) (gN 1))
  (dSeq (dAsg (dTup (daCons (dMake "Stock" 2 M_Stock___init__ (daCons (dVar 1) daNil)) (daCons (dLst daNil) daNil))) (gT 2 (gsCons (gN 2) (gsCons (gN 3) gsNil))))
  (dSeq turnL
  (dSeq (dIfS (dB (dOp neD (dFld ["Stock"] "gone" (dVar 2)) (dLst daNil)))
  (dSeq (dAsg (dOp ixD (dFld ["Stock"] "gone" (dVar 2)) (dOp subD (dBlt lenD (daCons (dFld ["Stock"] "gone" (dVar 2)) daNil)) (dC (.int 1)))) (gT 2 (gsCons (gN 5) (gsCons (gN 6) gsNil))))
  (dIfS (dOrT (dB (dOp neD (dMeth "Stock" "come_back" 2 M_Stock_come_back (dVar 2) (daCons (dVar 5) daNil)) (dVar 6))) (dNotT (dB (dMeth "Stock" "look" 1 M_Stock_look (dVar 2) daNil))))
  (dRet (dC (.bl false)))
  dNext))
  dNext)
  (dSeq (dAsg (dCall 2 M__law_roll (daCons (dVar 0) (daCons (dC (.int 12)) daNil))) (gN 9))
  (dSeq (dAsg (dMeth "Stock" "worth" 1 M_Stock_worth (dVar 2) daNil) (gN 10))
  (dSeq (dAsg (dMeth "Stock" "lowered" 2 M_Stock_lowered (dVar 2) (daCons (dVar 9) daNil)) (gN 11))
  (dRet (dAndV (dOp eqD (dMeth "Stock" "worth" 1 M_Stock_worth (dVar 2) daNil) (dOp subD (dVar 10) (dVar 11))) (dAndV (dOp geD (dVar 11) (dC (.int 0))) (dAndV (dMeth "Stock" "look" 1 M_Stock_look (dVar 2) daNil) (dOp eqD (dLc (diSeq (dFld ["Stock"] "lots" (dVar 2))) (gN 12) (dB (dOp gtD (dOp ixD (dVar 12) (dC (.int 1))) (dOp mulD (dVar 9) (dOp ixD (dVar 12) (dC (.int 0)))))) (dVar 12) [12]) (dLst daNil)))))))))))))
theorem M_stock_eq : M__law_stock = runD 15 stockB := rfl

/-! ### what holds through the turns -/
def Posl (xs : Lots) : Prop := ∀ z ∈ xs, 0 < z.1 ∧ 0 ≤ z.2
theorem pos_le1 : ∀ {xs : Lots}, Posl xs → ∀ z ∈ xs, z.1 ≤ s1 xs ∧ z.2 ≤ s2 xs ∧ 0 ≤ s1 xs ∧ 0 ≤ s2 xs
  | [], h, z, hz => nomatch hz
  | x :: xs, h, z, hz => by
    have hx := h x List.mem_cons_self
    have t : Posl xs := fun y hy => h y (List.mem_cons_of_mem _ hy)
    rw [s1_cons, s2_cons]
    have nn : 0 ≤ s1 xs ∧ 0 ≤ s2 xs := by
      cases xs with
      | nil => simp
      | cons y ys => exact (pos_le1 t y List.mem_cons_self).2.2
    rcases List.mem_cons.mp hz with rfl | hz
    · omega
    · have := pos_le1 t z hz
      omega
theorem okl_of {xs : Lots} (h : Posl xs) (h1 : s1 xs < 2 ^ 40) (h2 : s2 xs < 2 ^ 40) : Okl xs := fun z hz => by
  have := pos_le1 h z hz
  have := h z hz
  omega
theorem pos_nn {xs : Lots} (h : Posl xs) : 0 ≤ s1 xs ∧ 0 ≤ s2 xs := by
  cases xs with
  | nil => simp
  | cons z r => exact (pos_le1 h z List.mem_cons_self).2.2
theorem okl_pos {xs : Lots} (h : Okl xs) : Posl xs := fun z hz => ⟨(h z hz).1, (h z hz).2.2.1⟩
theorem come_facts {y : Wy} {lots : Lots} {k v : Int} (P : Posl lots) (hm : y = .mean → lots.length ≤ 1) (hk : 1 ≤ k) (hv : 0 ≤ v) :
    Posl (comeF y lots k v) ∧ s1 (comeF y lots k v) = s1 lots + k ∧ s2 (comeF y lots k v) = s2 lots + v ∧ (comeF y lots k v).length ≤ lots.length + 1 ∧ (y = .mean → (comeF y lots k v).length ≤ 1) := by
  unfold comeF
  by_cases c : y = .mean
  · rw [if_pos c]
    have h1 := hm c
    match lots, h1 with
    | [], _ => exact ⟨fun z hz => by rw [List.mem_singleton] at hz; subst hz; exact ⟨by show 0 < k; omega, hv⟩, by simp, by simp, by simp, fun _ => by simp⟩
    | [x], _ =>
      have hx := P x List.mem_cons_self
      exact ⟨fun z hz => by rw [List.mem_singleton] at hz; subst hz; exact ⟨by show 0 < x.1 + k; omega, by show 0 ≤ x.2 + v; omega⟩, by simp, by simp, by simp, fun _ => by simp⟩
  · rw [if_neg c]
    refine ⟨fun z hz => ?_, by rw [s1_app]; simp, by rw [s2_app]; simp, by simp, fun h => absurd h c⟩
    rcases List.mem_append.mp hz with hz | hz
    · exact P z hz
    · rw [List.mem_singleton] at hz; subst hz; exact ⟨by show 0 < k; omega, hv⟩
structure LI (S0 S : Store) (n s L G C M : Nat) (y : Wy) (lots gone came : Lots) (j : Nat) : Prop where
  sa : SA S s L G C (wS y) lots gone came
  m : lstAt S M = some (lots.map pairD)
  kp : Kp n S0 S
  d : DiceAt S n
  n0 : n < S0.length
  fs : S0.length ≤ s
  fL : S0.length ≤ L
  fG : S0.length ≤ G
  fC : S0.length ≤ C
  fM : S0.length ≤ M
  Mn : M ∉ [s, L, G, C]
  pos : Posl lots
  b1 : s1 lots ≤ 5 * (j : Int)
  b2 : s2 lots ≤ 60 * (j : Int)
  e1 : s1 came = s1 lots + s1 gone
  e2 : s2 came = s2 lots + s2 gone
  gp : ∀ z ∈ gone, 1 ≤ z.1 ∧ z.1 ≤ 5 ∧ 0 ≤ z.2 ∧ z.2 ≤ 60 * (j : Int)
  ll : lots.length ≤ j
  gl : gone.length ≤ j
  cl : came.length ≤ j
  mean : y = .mean → lots.length ≤ 1
theorem SA.ch {S S' : Store} {s L G C : Nat} {w : Str} {lots gone came : Lots} {xs : List Nat} (H : SA S s L G C w lots gone came) (c : Ch xs S S') (h1 : s ∉ xs) (h2 : L ∉ xs) (h3 : G ∉ xs) (h4 : C ∉ xs) : SA S' s L G C w lots gone came := by
  refine ⟨?_, c.lst h2 H.l, c.lst h3 H.g, c.lst h4 H.c, H.LG, H.LC, H.GC⟩
  have := c.at_ s h1 (lt_of_ins H.ins)
  have hi := H.ins
  unfold insAt at hi ⊢
  dsimp only at hi ⊢
  rw [this]
  exact hi
theorem ch_of_kp {n : Nat} {S S' : Store} (k : Kp n S S') : Ch [n] S S' := ⟨k.len, fun i h1 h2 => k.at_ i (by simpa using h1) h2⟩
theorem kp_ch {n : Nat} {xs : List Nat} {S0 S S' : Store} (k : Kp n S0 S) (c : Ch xs S S') (h : ∀ x ∈ xs, S0.length ≤ x) : Kp n S0 S' :=
  ⟨Nat.le_trans k.len c.len, fun i h1 h2 => by rw [c.at_ i (fun hi => by have := h i hi; omega) (Nat.lt_of_lt_of_le h2 k.len)]; exact k.at_ i h1 h2⟩
theorem dice_ch {n : Nat} {xs : List Nat} {S S' : Store} (d : DiceAt S n) (c : Ch xs S S') (h : n ∉ xs) : DiceAt S' n := by
  obtain ⟨a, b, f, h1⟩ := d
  exact ⟨a, b, f, c.lst h h1⟩
section
variable {S0 S : Store} {n s L G C M : Nat} {y : Wy} {lots gone came : Lots} {j : Nat} (H : LI S0 S n s L G C M y lots gone came j)
include H
theorem LI.four : ∀ x ∈ [s, L, G, C], S0.length ≤ x := by
  intro x hx
  simp at hx
  rcases hx with rfl | rfl | rfl | rfl
  · exact H.fs
  · exact H.fL
  · exact H.fG
  · exact H.fC
theorem LI.nin : n ∉ [s, L, G, C] := fun h => by have := H.four n h; have := H.n0; omega
theorem LI.okl (hj : j ≤ 1000) : Okl lots := okl_of H.pos (by have := H.b1; omega) (by have := H.b2; omega)
/-- a roll, or things laid aside -/
theorem LI.roll {S' : Store} (k : Kp n S S') (d : DiceAt S' n) : LI S0 S' n s L G C M y lots gone came j := by
  have q := H.nin
  simp at q
  have n0 := H.n0
  have fM := H.fM
  exact { H with sa := H.sa.ch (ch_of_kp k) (by simp; omega) (by simp; omega) (by simp; omega) (by simp; omega), m := k.lst (by omega) H.m, kp := H.kp.trans k, d := d }
theorem LI.app {T : Store} : LI S0 (S ++ T) n s L G C M y lots gone came j := H.roll Kp.app H.d.app
end
theorem col13_ok {S : Store} {M : Nat} {lots : Lots} {u0 u1 u2 u4 u5 u6 u7 u8 u9 u10 u11 u12 u13 u14 : Option D} (h : lstAt S M = some (lots.map pairD)) (hl : lots.length < 1000000) : col13 [u0, u1, u2, some (.obj M), u4, u5, u6, u7, u8, u9, u10, u11, u12, u13, u14] S = .ok (.obj S.length) (S ++ [.lst ((lots.map (·.1)).map D.int)]) := by
  have := dLc_map (fi := diSeq (dVar 3)) (tg := gT 2 (gsCons (gN 13) (gsCons (gN 14) gsNil))) (fe := dVar 13) (vs := [13, 14]) (ρ := [u0, u1, u2, some (.obj M), u4, u5, u6, u7, u8, u9, u10, u11, u12, u13, u14]) (S := S) (S1 := S) (grd := grdL M (lots.map pairD)) lots pairD (fun z => D.int z.1) (by simp -implicitDefEqProofs [h]) (fun X => grdL_iff.mpr (lstAt_keep _ _ h)) (fun z hz X => ⟨[u0, u1, u2, some (.obj M), u4, u5, u6, u7, u8, u9, u10, u11, u12, some (.int z.1), some (.int z.2)], by simp [pairD], rfl⟩) hl
  unfold col13
  rw [this, List.map_map]
  rfl
theorem col14_ok {S : Store} {M : Nat} {lots : Lots} {u0 u1 u2 u4 u5 u6 u7 u8 u9 u10 u11 u12 u13 u14 : Option D} (h : lstAt S M = some (lots.map pairD)) (hl : lots.length < 1000000) : col14 [u0, u1, u2, some (.obj M), u4, u5, u6, u7, u8, u9, u10, u11, u12, u13, u14] S = .ok (.obj S.length) (S ++ [.lst ((lots.map (·.2)).map D.int)]) := by
  have := dLc_map (fi := diSeq (dVar 3)) (tg := gT 2 (gsCons (gN 13) (gsCons (gN 14) gsNil))) (fe := dVar 14) (vs := [13, 14]) (ρ := [u0, u1, u2, some (.obj M), u4, u5, u6, u7, u8, u9, u10, u11, u12, u13, u14]) (S := S) (S1 := S) (grd := grdL M (lots.map pairD)) lots pairD (fun z => D.int z.2) (by simp -implicitDefEqProofs [h]) (fun X => grdL_iff.mpr (lstAt_keep _ _ h)) (fun z hz X => ⟨[u0, u1, u2, some (.obj M), u4, u5, u6, u7, u8, u9, u10, u11, u12, some (.int z.1), some (.int z.2)], by simp [pairD], rfl⟩) hl
  unfold col14
  rw [this, List.map_map]
  rfl
theorem chk_ok {S0 S : Store} {n s L G C M : Nat} {y : Wy} {lots gone came : Lots} {j : Nat} (H : LI S0 S n s L G C M y lots gone came j) (hj : j ≤ 1000) (u0 u1 u4 u5 u6 u7 u8 u9 u10 u11 u12 u13 u14 : Option D) :
    ∃ T, dSeq chk1 chk2 [u0, u1, some (.obj s), some (.obj M), u4, u5, u6, u7, u8, u9, u10, u11, u12, u13, u14] S = .nx [u0, u1, some (.obj s), some (.obj M), u4, u5, u6, u7, u8, u9, u10, u11, u12, u13, u14] (S ++ T) := by
  have ll := H.ll
  have sa := H.sa
  have ns := told_pr.ne_same sa.l H.m
  have lk := look_ok sa H.e1 H.e2
  have th := there_ok sa
  have c13 := col13_ok (u0 := u0) (u1 := u1) (u2 := some (.obj s)) (u4 := u4) (u5 := u5) (u6 := u6) (u7 := u7) (u8 := u8) (u9 := u9) (u10 := u10) (u11 := u11) (u12 := u12) (u13 := u13) (u14 := u14) H.m (by omega)
  have H1 := H.app (T := [.lst ((lots.map (·.1)).map D.int)])
  have wo := worth_ok H1.sa
  have c14 := col14_ok (u0 := u0) (u1 := u1) (u2 := some (.obj s)) (u4 := u4) (u5 := u5) (u6 := u6) (u7 := u7) (u8 := u8) (u9 := u9) (u10 := u10) (u11 := u11) (u12 := u12) (u13 := u13) (u14 := u14) H1.m (by omega)
  refine ⟨[.lst ((lots.map (·.1)).map D.int)] ++ [.lst ((lots.map (·.2)).map D.int)], ?_⟩
  rw [← List.append_assoc]
  have x1 : (lots.map (·.1)).sum = s1 lots := rfl
  have x2 : (lots.map (·.2)).sum = s2 lots := rfl
  have i1 : intsOf ((lots.map (·.1)).map D.int) = some (lots.map (·.1)) := intsOf_map _
  have i2 : intsOf ((lots.map (·.2)).map D.int) = some (lots.map (·.2)) := intsOf_map _
  generalize (lots.map (·.1)).map D.int = A at *
  generalize (lots.map (·.2)).map D.int = B at *
  have hA : lstAt (S ++ [DO.lst A]) S.length = some A := by simp
  have hB : lstAt (S ++ [DO.lst A] ++ [DO.lst B]) (S ++ [DO.lst A]).length = some B := by rw [lstAt_app0]; rfl
  generalize hS1 : S ++ [DO.lst A] = S1 at *
  generalize hS2 : S1 ++ [DO.lst B] = S2 at *
  simp -implicitDefEqProofs [chk1, chk2, sa.ins, ns, lk, th, c13, hA, i1, x1, H1.sa.ins, wo, c14, hB, i2, x2]
end Pr
set_option Elab.async false
set_option linter.all false
set_option maxRecDepth 100000
set_option maxHeartbeats 1000000
namespace Pr
open PySem PySem.Spec PyProof.Rows L2 DL
theorem SA.lts {S : Store} {s L G C : Nat} {w : Str} {lots gone came : Lots} (H : SA S s L G C w lots gone came) : ∀ x ∈ [s, L, G, C], x < S.length := by
  intro x hx
  simp at hx
  rcases hx with rfl | rfl | rfl | rfl
  · exact lt_of_ins H.ins
  · exact lt_of_lst H.l
  · exact lt_of_lst H.g
  · exact lt_of_lst H.c
theorem comeS_ok {S0 S : Store} {n s L G C M : Nat} {y : Wy} {lots gone came : Lots} {j : Nat} {k v : Int} (H : LI S0 S n s L G C M y lots gone came j) (hj : j ≤ 999) (hk : 1 ≤ k) (hk2 : k ≤ 5) (hv : 0 ≤ v) (hv2 : v ≤ 60) (u4 u7 u8 u9 u10 u11 u12 u13 u14 : Option D) :
    ∃ L' M' S', comeS [some (.obj n), some (.str (wS y)), some (.obj s), some (.obj M), u4, some (.int k), some (.int v), u7, u8, u9, u10, u11, u12, u13, u14] S = .nx [some (.obj n), some (.str (wS y)), some (.obj s), some (.obj M'), u4, some (.int k), some (.int v), u7, u8, u9, u10, u11, u12, u13, u14] S' ∧
      LI S0 S' n s L' G C M' y (comeF y lots k v) gone (came ++ [(k, v)]) (j + 1) := by
  have ll := H.ll
  have cl := H.cl
  obtain ⟨L', S1, e1, A1, c1, l1⟩ := come_ok (k := k) (v := v) H.sa hk hv (by omega) (by omega)
  obtain ⟨f1, f2, f3, f4, f5⟩ := come_facts (k := k) (v := v) H.pos H.mean hk hv
  have m1 : lstAt S1 M = some (lots.map pairD) := c1.lst H.Mn H.m
  have fin : ∀ (T : Store) (M' : Nat), S1.length ≤ M' → lstAt (S1 ++ T) M' = some ((comeF y lots k v).map pairD) → LI S0 (S1 ++ T) n s L' G C M' y (comeF y lots k v) gone (came ++ [(k, v)]) (j + 1) := fun T M' hM h => by
    have ln := H.kp.len
    have ln1 := c1.len
    refine { sa := A1.app, m := h, kp := (kp_ch H.kp c1 H.four).trans Kp.app, d := (dice_ch H.d c1 H.nin).app, n0 := H.n0, fs := H.fs, fL := ?_, fG := H.fG, fC := H.fC, fM := by omega, Mn := fun hx => ?_, pos := f1, b1 := ?_, b2 := ?_, e1 := ?_, e2 := ?_, gp := fun z hz => ?_, ll := by omega, gl := ?_, cl := ?_, mean := f5 }
    · rcases l1 with h | h
      · rw [h]; exact H.fL
      · omega
    · have := A1.lts M' hx; omega
    · have := H.b1; omega
    · have := H.b2; omega
    · rw [f2, s1_app, H.e1]; simp; omega
    · rw [f3, s2_app, H.e2]; simp; omega
    · have := H.gp z hz; omega
    · have := H.gl; omega
    · simp; exact cl
  by_cases c : y = .mean
  · subst c
    have n0 := told_pr.nil (S := S1 ++ [.lst []]) (n := M) (m := S1.length) (lstAt_keep _ _ m1) (by simp)
    cases lots with
    | nil =>
      have ad := addD_obj (n := M) (k := S1.length + 1) (S := S1 ++ [.lst [], .lst [.tup [.int k, .int v]]]) (xs := []) (ys := [.tup [.int k, .int v]]) (lstAt_keep _ _ m1) (by unfold lstAt; rw [List.getElem?_append_right (by omega), show S1.length + 1 - S1.length = 1 by omega]; rfl) (by simp)
      refine ⟨L', S1.length + 2, _, ?_, fin [.lst [], .lst [.tup [.int k, .int v]], .lst [.tup [.int k, .int v]]] (S1.length + 2) (by omega) (by unfold lstAt; rw [List.getElem?_append_right (by omega), show S1.length + 2 - S1.length = 2 by omega]; rfl)⟩
      simp at ad
      simp -implicitDefEqProofs [comeS, H.sa.ins, e1, eq_mean, n0.2, ad]
    | cons z r =>
      have m2 : lstAt (S1 ++ [.lst []]) M = some (pairD z :: r.map pairD) := lstAt_keep _ _ m1
      refine ⟨L', S1.length + 1, _, ?_, fin [.lst [], .lst [.tup [.int (z.1 + k), .int (z.2 + v)]]] (S1.length + 1) (by omega) (by unfold lstAt; rw [List.getElem?_append_right (by omega), show S1.length + 1 - S1.length = 1 by omega]; rfl)⟩
      rw [pairD] at m2
      simp -implicitDefEqProofs [comeS, H.sa.ins, e1, eq_mean, n0.2, m2]
  · have cf : comeF y lots k v = lots ++ [(k, v)] := if_neg c
    have ad := addD_obj (n := M) (k := S1.length) (S := S1 ++ [.lst [.tup [.int k, .int v]]]) (xs := lots.map pairD) (ys := [.tup [.int k, .int v]]) (lstAt_keep _ _ m1) (by simp) (by simp; omega)
    refine ⟨L', S1.length + 1, _, ?_, fin [.lst [.tup [.int k, .int v]], .lst (lots.map pairD ++ [.tup [.int k, .int v]])] (S1.length + 1) (by omega) (by rw [cf]; unfold lstAt; rw [List.getElem?_append_right (by omega), show S1.length + 1 - S1.length = 1 by omega, List.map_append]; rfl)⟩
    simp at ad
    simp -implicitDefEqProofs [comeS, H.sa.ins, e1, eq_mean, c, ad]
theorem goS_ok {S0 S : Store} {n s L G C M : Nat} {y : Wy} {lots gone came : Lots} {j : Nat} {k : Int} (H : LI S0 S n s L G C M y lots gone came j) (hj : j ≤ 999) (hk : 1 ≤ k) (hk2 : k ≤ 5) (u4 u6 u7 u8 u9 u10 u11 u12 u13 u14 : Option D) :
    ∃ M' v7 v8 S' lots' gone', goS [some (.obj n), some (.str (wS y)), some (.obj s), some (.obj M), u4, some (.int k), u6, u7, u8, u9, u10, u11, u12, u13, u14] S = .nx [some (.obj n), some (.str (wS y)), some (.obj s), some (.obj M'), u4, some (.int k), u6, v7, v8, u9, u10, u11, u12, u13, u14] S' ∧
      LI S0 S' n s L G C M' y lots' gone' came (j + 1) := by
  have ll := H.ll
  have cl := H.cl
  have c13 := col13_ok (u0 := some (.obj n)) (u1 := some (.str (wS y))) (u2 := some (.obj s)) (u4 := u4) (u5 := some (.int k)) (u6 := u6) (u7 := u7) (u8 := u8) (u9 := u9) (u10 := u10) (u11 := u11) (u12 := u12) (u13 := u13) (u14 := u14) H.m (by omega)
  have H1 := H.app (T := [.lst ((lots.map (·.1)).map D.int)])
  have x1 : (lots.map (·.1)).sum = s1 lots := rfl
  have i1 : intsOf ((lots.map (·.1)).map D.int) = some (lots.map (·.1)) := intsOf_map _
  generalize (lots.map (·.1)).map D.int = A at *
  have hA : lstAt (S ++ [DO.lst A]) S.length = some A := by simp
  generalize hS1 : S ++ [DO.lst A] = S1 at *
  have O := H.okl (by omega)
  by_cases c : k ≤ s1 lots
  · obtain ⟨M', S2, e2, m2, g2, k2⟩ := cut_ok (b := isLast y) (t := k) H1.m O (by omega) c (by omega)
    have n0 := H1.n0
    have ln0 := H1.kp.len
    have d2 : DiceAt S2 n := H1.d.kp (k2 (n + 1)) (by omega)
    have H2 := H1.roll (k2 n) d2
    obtain ⟨S3, e3, A3, c3⟩ := go_ok H2.sa O hk c (by omega) (by have := H.gl; omega)
    obtain ⟨t1, t2, t3, t4, t5⟩ := take_facts (ordL (isLast y) lots) k (ord_okl O) (by omega) (by rw [ord_s1]; exact c)
    rw [ord_s1] at t2
    rw [ord_s2] at t3
    rw [ord_len] at t5
    generalize takeF (ordL (isLast y) lots) k = tk at *
    have Mn : M' ∉ [s, L, G, C] := fun hx => by have := H1.sa.lts M' hx; omega
    have nn2 := (pos_nn (okl_pos t1)).2
    refine ⟨M', some (.int (s1 lots)), some (.int tk.1), S3, ordL (isLast y) tk.2, gone ++ [(k, tk.1)], ?_, ?_⟩
    · have il : decide (y = Wy.last) = isLast y := rfl
      have nel : ¬ tk.1 ≠ tk.1 := fun h => h rfl
      simp -implicitDefEqProofs [-decide_eq_true_eq, goS, c13, hA, i1, x1, c, eq_last, il, e2, H2.sa.ins, e3]
    · refine { sa := A3, m := c3.lst Mn m2, kp := kp_ch H2.kp c3 H2.four, d := dice_ch H2.d c3 H2.nin, n0 := H.n0, fs := H.fs, fL := H.fL, fG := H.fG, fC := H.fC, fM := by omega, Mn := Mn, pos := okl_pos (ord_okl t1), b1 := ?_, b2 := ?_, e1 := ?_, e2 := ?_, gp := fun z hz => ?_, ll := by rw [ord_len]; omega, gl := ?_, cl := by omega, mean := fun h => ?_ }
      · rw [ord_s1, t2]; have := H.b1; omega
      · rw [ord_s2, t3]; have := H.b2; omega
      · rw [ord_s1, t2, s1_app, H.e1]; simp; omega
      · rw [ord_s2, t3, s2_app, H.e2]; simp; omega
      · rcases List.mem_append.mp hz with hz | hz
        · have := H.gp z hz; omega
        · rw [List.mem_singleton] at hz
          subst hz
          have := H.b2
          dsimp only
          omega
      · simp; exact H.gl
      · rw [ord_len]; have := H.mean h; omega
  · have e3 := go_short H1.sa hk (by omega)
    refine ⟨M, some (.int (s1 lots)), some (.str "short"), S1, lots, gone, ?_, ?_⟩
    · simp -implicitDefEqProofs [goS, c13, hA, i1, x1, c, H1.sa.ins, e3, told_short, ne_short]
    · exact { H1 with b1 := by have := H.b1; omega, b2 := by have := H.b2; omega, gp := fun z hz => by have := H.gp z hz; omega, ll := by omega, gl := by have := H.gl; omega, cl := by omega }
end Pr
set_option Elab.async false
set_option linter.all false
set_option maxRecDepth 100000
set_option maxHeartbeats 1000000
namespace Pr
open PySem PySem.Spec PyProof.Rows L2 DL
theorem turn_ok {S0 S : Store} {n s L G C M : Nat} {y : Wy} {lots gone came : Lots} {j : Nat} (H : LI S0 S n s L G C M y lots gone came j) (hj : j ≤ 999) (u4 u5 u6 u7 u8 u9 u10 u11 u12 u13 u14 : Option D) :
    ∃ L' M' v5 v6 v7 v8 S' lots' gone' came', turnB [some (.obj n), some (.str (wS y)), some (.obj s), some (.obj M), u4, u5, u6, u7, u8, u9, u10, u11, u12, u13, u14] S = .nx [some (.obj n), some (.str (wS y)), some (.obj s), some (.obj M'), u4, v5, v6, v7, v8, u9, u10, u11, u12, u13, u14] S' ∧
      LI S0 S' n s L' G C M' y lots' gone' came' (j + 1) := by
  obtain ⟨c, S1, hc, e1, k1, d1⟩ := roll H.d (show (0 : Int) < 5 by decide) (by decide)
  obtain ⟨v, S2, hv, e2, k2, d2⟩ := roll d1 (show (0 : Int) < 60 by decide) (by decide)
  obtain ⟨r, S3, hr, e3, k3, d3⟩ := roll d2 (show (0 : Int) < 3 by decide) (by decide)
  have H3 := ((H.roll k1 d1).roll k2 d2).roll k3 d3
  obtain ⟨k, hk⟩ : ∃ k : Int, 1 + (c : Int) = k := ⟨_, rfl⟩
  by_cases c0 : 0 < r
  · obtain ⟨L', M', S4, e4, H4⟩ := comeS_ok (k := k) (v := (v : Int)) H3 hj (by omega) (by omega) (by omega) (by omega) u4 u7 u8 u9 u10 u11 u12 u13 u14
    obtain ⟨T, e5⟩ := chk_ok H4 (by omega) (some (.obj n)) (some (.str (wS y))) u4 (some (.int k)) (some (.int (v : Int))) u7 u8 u9 u10 u11 u12 u13 u14
    refine ⟨L', M', some (.int k), some (.int (v : Int)), u7, u8, S4 ++ T, _, _, _, ?_, H4.app⟩
    rw [e_dSeq] at e5
    simp -implicitDefEqProofs [turnB, turnA, e1, e2, e3, hk, c0, e4, e5]
  · obtain ⟨M', v7, v8, S4, lots', gone', e4, H4⟩ := goS_ok (k := k) H3 hj (by omega) (by omega) u4 (some (.int (v : Int))) u7 u8 u9 u10 u11 u12 u13 u14
    obtain ⟨T, e5⟩ := chk_ok H4 (by omega) (some (.obj n)) (some (.str (wS y))) u4 (some (.int k)) (some (.int (v : Int))) v7 v8 u9 u10 u11 u12 u13 u14
    refine ⟨L, M', some (.int k), some (.int (v : Int)), v7, v8, S4 ++ T, _, _, _, ?_, H4.app⟩
    rw [e_dSeq] at e5
    simp -implicitDefEqProofs [turnB, turnA, e1, e2, e3, hk, c0, e4, e5]
theorem turn_loop {S0 : Store} {n s G C : Nat} {y : Wy} {u9 u10 u11 u12 u13 u14 : Option D} : ∀ (N i : Nat) (S : Store) (L M : Nat) (lots gone came : Lots) (u4 u5 u6 u7 u8 : Option D), LI S0 S n s L G C M y lots gone came i → i + N ≤ 100 →
    ∃ L' M' v4 v5 v6 v7 v8 S' lots' gone' came', forD grdT (gN 4) turnB (rngD (i : Int) 1 N) [some (.obj n), some (.str (wS y)), some (.obj s), some (.obj M), u4, u5, u6, u7, u8, u9, u10, u11, u12, u13, u14] S = .nx [some (.obj n), some (.str (wS y)), some (.obj s), some (.obj M'), v4, v5, v6, v7, v8, u9, u10, u11, u12, u13, u14] S' ∧
      LI S0 S' n s L' G C M' y lots' gone' came' (i + N)
  | 0, i, S, L, M, lots, gone, came, u4, u5, u6, u7, u8, H, hi => ⟨L, M, u4, u5, u6, u7, u8, S, lots, gone, came, by simp, H⟩
  | N + 1, i, S, L, M, lots, gone, came, u4, u5, u6, u7, u8, H, hi => by
    obtain ⟨L1, M1, w5, w6, w7, w8, S1, lots1, gone1, came1, e1, H1⟩ := turn_ok H (by omega) (some (.int (i : Int))) u5 u6 u7 u8 u9 u10 u11 u12 u13 u14
    obtain ⟨L', M', v4, v5, v6, v7, v8, S', lots', gone', came', e, H2⟩ := turn_loop N (i + 1) S1 L1 M1 lots1 gone1 came1 (some (.int (i : Int))) w5 w6 w7 w8 H1 (by omega)
    refine ⟨L', M', v4, v5, v6, v7, v8, S', lots', gone', came', ?_, by rw [show i + (N + 1) = i + 1 + N by omega]; exact H2⟩
    rw [rngD_succ]
    rw [show ((i + 1 : Nat) : Int) = (i : Int) + 1 by omega] at e
    rw [← e]
    simp -implicitDefEqProofs [e1]
theorem not_in_w (y : Wy) (S : Store) : notInD (.str (wS y)) (.tup [.str "first", .str "last", .str "mean"]) S = some (.bl false, S) := by
  cases y <;> rfl
theorem not_in_none (S : Store) : notInD (.str "none") (.tup [.str "first", .str "last", .str "mean"]) S = some (.bl true, S) := by
  rfl
end Pr
set_option Elab.async false
set_option linter.all false
set_option maxRecDepth 100000
set_option maxHeartbeats 1000000
namespace Pr
open PySem PySem.Spec PyProof.Rows L2 DL
theorem init_ok (y : Wy) (S : Store) : M_Stock___init__ [.obj S.length, .str (wS y)] (S ++ [.ins "Stock" []]) = .ok .non (S ++ [.ins "Stock" (stF (wS y) (S.length + 1) (S.length + 2) (S.length + 3)), .lst [], .lst [], .lst []]) := by
  have z := not_in_w y
  have p1 : ∀ d : D, putD (Str.ofString "way") d ([] : List (Str × D)) = [(Str.ofString "way", d)] := fun d => rfl
  have p2 : ∀ d e : D, putD (Str.ofString "lots") d [(Str.ofString "way", e)] = [(Str.ofString "way", e), (Str.ofString "lots", d)] := fun d e => rfl
  have p3 : ∀ d e f : D, putD (Str.ofString "gone") d [(Str.ofString "way", e), (Str.ofString "lots", f)] = [(Str.ofString "way", e), (Str.ofString "lots", f), (Str.ofString "gone", d)] := fun d e f => rfl
  have p4 : ∀ d e f g : D, putD (Str.ofString "came") d [(Str.ofString "way", e), (Str.ofString "lots", f), (Str.ofString "gone", g)] = [(Str.ofString "way", e), (Str.ofString "lots", f), (Str.ofString "gone", g), (Str.ofString "came", d)] := fun d e f g => rfl
  simp -implicitDefEqProofs only [M_Stock___init__, e_runD, f_Stock___init__]
  simp -implicitDefEqProofs [startD, z, p1, p2, p3, p4, stF]
def lowC : DE := (dLc (diSeq (dFld ["Stock"] "lots" (dVar 2))) (gN 12) (dB (dOp gtD (dOp ixD (dVar 12) (dC (.int 1))) (dOp mulD (dVar 9) (dOp ixD (dVar 12) (dC (.int 0)))))) (dVar 12) [12])
theorem lowC_ok {S : Store} {s L G C : Nat} {w : Str} {lots gone came : Lots} {p : Int} {u0 u1 u3 u4 u5 u6 u7 u8 u10 u11 u12 u13 u14 : Option D} (H : SA S s L G C w lots gone came) (hp : p.natAbs < 18446744073709551616) (h : ∀ z ∈ lots, z.2 ≤ p * z.1) :
    lowC [u0, u1, some (.obj s), u3, u4, u5, u6, u7, u8, some (.int p), u10, u11, u12, u13, u14] S = .ok (.obj S.length) (S ++ [.lst []]) := by
  have t : lcD (grdL L (lots.map pairD)) (gN 12) (dB (dOp gtD (dOp ixD (dVar 12) (dC (.int 1))) (dOp mulD (dVar 9) (dOp ixD (dVar 12) (dC (.int 0)))))) (dVar 12) S.length [u0, u1, some (.obj s), u3, u4, u5, u6, u7, u8, some (.int p), u10, u11, none, u13, u14] (lots.map pairD) (S ++ [.lst []]) = .ok () (S ++ [.lst []]) := by
    refine lc_none (grdL_iff.mpr (lstAt_keep _ _ H.l)) _ fun d hd => ?_
    obtain ⟨z, hz, rfl⟩ := List.mem_map.mp hd
    have le := h z hz
    have n1 : ¬ p * z.1 < z.2 := by omega
    refine ⟨[u0, u1, some (.obj s), u3, u4, u5, u6, u7, u8, some (.int p), u10, u11, some (pairD z), u13, u14], rfl, ?_⟩
    simp -implicitDefEqProofs [pairD, mulD_l hp, n1]
  unfold lowC
  simp -implicitDefEqProofs [H.ins, H.l, t]
theorem low_s1 (p : Int) (xs : Lots) : s1 (xs.map (lowF p)) = s1 xs := by
  induction xs with
  | nil => rfl
  | cons z r ih => rw [List.map_cons, s1_cons, s1_cons, ih]; rfl
theorem low_s2 (p : Int) (xs : Lots) : s2 (xs.map (lowF p)) ≤ s2 xs := by
  induction xs with
  | nil => exact Int.le_refl _
  | cons z r ih => rw [List.map_cons, s2_cons, s2_cons]; have : (lowF p z).2 ≤ z.2 := Int.min_le_left _ _; omega

theorem low_le {p : Int} {xs : Lots} : ∀ z ∈ xs.map (lowF p), z.2 ≤ p * z.1 := fun z hz => by
  obtain ⟨x, _, rfl⟩ := List.mem_map.mp hz
  show min x.2 (x.1 * p) ≤ p * x.1
  rw [Int.mul_comm p]
  exact Int.min_le_right _ _
theorem way_at (v : Nat) (h : v < 3) : ∃ y : Wy, atI [D.str "first", D.str "last", D.str "mean"] (v : Int) = some (D.str (wS y)) := by
  have : v = 0 ∨ v = 1 ∨ v = 2 := by omega
  rcases this with rfl | rfl | rfl
  · exact ⟨.first, rfl⟩
  · exact ⟨.last, rfl⟩
  · exact ⟨.mean, rfl⟩
/-- what is told at the end: what came back, what is brought down -/
def backS : DS := (dIfS (dB (dOp neD (dFld ["Stock"] "gone" (dVar 2)) (dLst daNil)))
  (dSeq (dAsg (dOp ixD (dFld ["Stock"] "gone" (dVar 2)) (dOp subD (dBlt lenD (daCons (dFld ["Stock"] "gone" (dVar 2)) daNil)) (dC (.int 1)))) (gT 2 (gsCons (gN 5) (gsCons (gN 6) gsNil))))
  (dIfS (dOrT (dB (dOp neD (dMeth "Stock" "come_back" 2 M_Stock_come_back (dVar 2) (daCons (dVar 5) daNil)) (dVar 6))) (dNotT (dB (dMeth "Stock" "look" 1 M_Stock_look (dVar 2) daNil))))
  (dRet (dC (.bl false)))
  dNext))
  dNext)
theorem back_ok {S0 S : Store} {n s L G C M : Nat} {y : Wy} {lots gone came : Lots} {j : Nat} (H : LI S0 S n s L G C M y lots gone came j) (hj : j ≤ 100) (u0 u1 u3 u4 u5 u6 u7 u8 u9 u10 u11 u12 u13 u14 : Option D) :
    ∃ L' v5 v6 S' lots' gone', backS [u0, u1, some (.obj s), u3, u4, u5, u6, u7, u8, u9, u10, u11, u12, u13, u14] S = .nx [u0, u1, some (.obj s), u3, u4, v5, v6, u7, u8, u9, u10, u11, u12, u13, u14] S' ∧
      SA S' s L' G C (wS y) lots' gone' came ∧ Posl lots' ∧ s1 lots' ≤ 1000000 ∧ lots'.length ≤ 1000 ∧ s1 came = s1 lots' + s1 gone' ∧ s2 came = s2 lots' + s2 gone' ∧ Kp n S0 S' ∧ DiceAt S' n ∧ (∀ x ∈ [s, L', G, C], S0.length ≤ x) := by
  have ll := H.ll
  have cl := H.cl
  have sa0 := H.sa.app (T := [.lst []])
  have ng := (told_pr.nil (S := S ++ [.lst []]) (n := G) (m := S.length) sa0.g (by simp)).2
  have H0 := H.app (T := [.lst []])
  by_cases c : gone = []
  · subst c
    refine ⟨L, u5, u6, S ++ [.lst []], lots, [], ?_, sa0, H.pos, by have := H.b1; omega, by omega, H.e1, H.e2, H0.kp, H0.d, H.four⟩
    simp -implicitDefEqProofs [backS, H.sa.ins, ng]
  · obtain ⟨g0, z, hg⟩ : ∃ g0 z, gone = g0 ++ [z] := ⟨gone.dropLast, gone.getLast c, (List.dropLast_concat_getLast c).symm⟩
    obtain ⟨k, v⟩ := z
    subst hg
    have gz := H.gp (k, v) (by simp)
    dsimp only at gz
    obtain ⟨L', S1, e1, A1, c1, l1⟩ := come_back_ok (k := k) (v := v) H0.sa (by omega) (by omega) (by omega) (by omega) (by omega) (by omega)
    obtain ⟨f1, f2, f3, f4, f5⟩ := come_facts (k := k) (v := v) H.pos H.mean (by omega) (by omega)
    have x1 := H.e1
    have x2 := H.e2
    rw [s1_app] at x1
    rw [s2_app] at x2
    simp only [s1_cons, s2_cons, s1_nil, s2_nil] at x1 x2
    have lk := look_ok A1 (by rw [f2]; omega) (by rw [f3]; omega)
    have hgl := H0.sa.g
    rw [List.map_append, List.map_cons, List.map_nil] at hgl
    have pz : pairD (k, v) = .tup [.int k, .int v] := rfl
    rw [pz] at hgl
    have ln : (g0.map pairD).length = g0.length := by simp
    have at1 : atI (g0.map pairD ++ [D.tup [.int k, .int v]]) (g0.length : Int) = some (.tup [.int k, .int v]) := by rw [DL.atI_nat, ← ln]; simp
    refine ⟨L', some (.int k), some (.int v), S1, _, g0, ?_, A1, f1, by have := H.b1; omega, by omega, by rw [f2]; omega, by rw [f3]; omega, kp_ch H0.kp c1 H0.four, dice_ch H0.d c1 H0.nin, fun x hx => ?_⟩
    · simp -implicitDefEqProofs [backS, H.sa.ins, ng, H0.sa.ins, hgl, at1, e1, A1.ins, lk]
    · simp at hx
      rcases hx with rfl | rfl | rfl | rfl
      · exact H.fs
      · have := H0.fL; have := H0.kp.len; omega
      · exact H.fG
      · exact H.fC
def stockC : DS :=
  (dSeq (dAsg (dOp ixD (dLst (daCons (dC (.str "first")) (daCons (dC (.str "last")) (daCons (dC (.str "mean")) daNil)))) (dCall 2 M__law_roll (daCons (dVar 0) (daCons (dC (.int 3)) daNil)))) (gN 1))
  (dSeq (dAsg (dTup (daCons (dMake "Stock" 2 M_Stock___init__ (daCons (dVar 1) daNil)) (daCons (dLst daNil) daNil))) (gT 2 (gsCons (gN 2) (gsCons (gN 3) gsNil))))
  (dSeq turnL
  (dSeq backS
  (dSeq (dAsg (dCall 2 M__law_roll (daCons (dVar 0) (daCons (dC (.int 12)) daNil))) (gN 9))
  (dSeq (dAsg (dMeth "Stock" "worth" 1 M_Stock_worth (dVar 2) daNil) (gN 10))
  (dSeq (dAsg (dMeth "Stock" "lowered" 2 M_Stock_lowered (dVar 2) (daCons (dVar 9) daNil)) (gN 11))
  (dRet (dAndV (dOp eqD (dMeth "Stock" "worth" 1 M_Stock_worth (dVar 2) daNil) (dOp subD (dVar 10) (dVar 11))) (dAndV (dOp geD (dVar 11) (dC (.int 0))) (dAndV (dMeth "Stock" "look" 1 M_Stock_look (dVar 2) daNil) (dOp eqD lowC (dLst daNil)))))))))))))
theorem M_stockC_eq : M__law_stock = runD 15 stockC := rfl
end Pr
set_option Elab.async false
set_option linter.all false
set_option maxRecDepth 100000
set_option maxHeartbeats 1000000
namespace Pr
open PySem PySem.Spec PyProof.Rows L2 DL
theorem turns_ok {S0 S : Store} {n s L G C M : Nat} {y : Wy} {lots gone came : Lots} (H : LI S0 S n s L G C M y lots gone came 0) (u4 u5 u6 u7 u8 u9 u10 u11 u12 u13 u14 : Option D) :
    ∃ L' M' v4 v5 v6 v7 v8 S' lots' gone' came' j, turnL [some (.obj n), some (.str (wS y)), some (.obj s), some (.obj M), u4, u5, u6, u7, u8, u9, u10, u11, u12, u13, u14] S = .nx [some (.obj n), some (.str (wS y)), some (.obj s), some (.obj M'), v4, v5, v6, v7, v8, u9, u10, u11, u12, u13, u14] S' ∧
      LI S0 S' n s L' G C M' y lots' gone' came' j ∧ j ≤ 10 := by
  obtain ⟨N, S1, hN, e1, k1, d1⟩ := roll H.d (show (0 : Int) < 11 by decide) (by decide)
  obtain ⟨L', M', v4, v5, v6, v7, v8, S', lots', gone', came', e, H2⟩ := turn_loop (u9 := u9) (u10 := u10) (u11 := u11) (u12 := u12) (u13 := u13) (u14 := u14) N 0 S1 L M lots gone came u4 u5 u6 u7 u8 (H.roll k1 d1) (by omega)
  refine ⟨L', M', v4, v5, v6, v7, v8, S', lots', gone', came', 0 + N, ?_, H2, by omega⟩
  rw [show ((0 : Nat) : Int) = 0 from rfl] at e
  have hr : -1000000000000 ≤ (N : Int) ∧ (N : Int) ≤ 1000000000000 := by omega
  unfold turnL
  simp -implicitDefEqProofs [e1, hr, e]
theorem law_stock_ok {n : Nat} {S : Store} (hd : DiceAt S n) : ∃ S', M__law_stock [.obj n] S = .ok (.bl true) S' ∧ Kp n S S' ∧ DiceAt S' n := by
  have n0 : n < S.length := by obtain ⟨a, b, f, h⟩ := hd; exact lt_of_lst h
  obtain ⟨v, S1, hv, e1, k1, d1⟩ := roll (hd.app (T := [.lst [.str "first", .str "last", .str "mean"]])) (show (0 : Int) < 3 by decide) (by decide)
  have q1 : lstAt S1 S.length = some [.str "first", .str "last", .str "mean"] := k1.lst (by omega) (by simp)
  obtain ⟨y, hy⟩ := way_at v (by omega)
  have ln1 : S.length ≤ S1.length := by have := k1.len; rw [List.length_append] at this; omega
  have ini := init_ok y S1
  obtain ⟨S3, hS3⟩ : ∃ S3 : Store, S1 ++ [.ins "Stock" (stF (wS y) (S1.length + 1) (S1.length + 2) (S1.length + 3)), .lst [], .lst [], .lst [], .lst []] = S3 := ⟨_, rfl⟩
  have at_ : ∀ k, S3[S1.length + k]? = [DO.ins "Stock" (stF (wS y) (S1.length + 1) (S1.length + 2) (S1.length + 3)), .lst [], .lst [], .lst [], .lst []][k]? := fun k => by
    rw [← hS3, List.getElem?_append_right (by omega), show S1.length + k - S1.length = k by omega]
  have A : SA S3 S1.length (S1.length + 1) (S1.length + 2) (S1.length + 3) (wS y) [] [] [] := ⟨by unfold insAt; dsimp only; rw [show S1.length = S1.length + 0 by omega, at_ 0]; rfl, by unfold lstAt; rw [at_ 1]; rfl, by unfold lstAt; rw [at_ 2]; rfl, by unfold lstAt; rw [at_ 3]; rfl, by omega, by omega, by omega⟩
  have H : LI S S3 n S1.length (S1.length + 1) (S1.length + 2) (S1.length + 3) (S1.length + 4) y [] [] [] 0 :=
    { sa := A, m := by unfold lstAt; rw [at_ 4]; rfl, kp := by rw [← hS3]; exact (Kp.app.trans k1).trans Kp.app, d := by rw [← hS3]; exact d1.app, n0 := n0, fs := ln1, fL := by omega, fG := by omega, fC := by omega, fM := by omega, Mn := by simp, pos := (fun z hz => nomatch hz), b1 := by simp, b2 := by simp, e1 := by simp, e2 := by simp, gp := (fun z hz => nomatch hz), ll := by simp, gl := by simp, cl := by simp, mean := fun _ => by simp }
  obtain ⟨L', M', v4, v5, v6, v7, v8, S4, lots, gone, came, j, e4, H4, hj⟩ := turns_ok H none none none none none none none none none none none
  obtain ⟨L2, w5, w6, S5, lots2, gone2, e5, A5, P5, b5, l5, x1, x2, k5, d5, f5⟩ := back_ok H4 (by omega) (some (.obj n)) (some (.str (wS y))) (some (.obj M')) v4 v5 v6 v7 v8 none none none none none none
  have cl := H4.cl
  obtain ⟨p, S6, hp, e6, k6, d6⟩ := roll d5 (show (0 : Int) < 12 by decide) (by decide)
  have nin : n ∉ [S1.length, L2, S1.length + 2, S1.length + 3] := fun h => by have := f5 n h; omega
  have A6 : SA S6 S1.length L2 (S1.length + 2) (S1.length + 3) (wS y) lots2 gone2 came := by
    simp at nin
    exact A5.ch (ch_of_kp k6) (by simp; omega) (by simp; omega) (by simp; omega) (by simp; omega)
  have w6' := worth_ok A6
  obtain ⟨L3, S7, e7, A7, c7⟩ := lowered_ok (p := (p : Int)) A6 (by omega) (fun z hz => by have := pos_le1 P5 z hz; have := P5 z hz; omega) (by omega) (by omega)
  have w7 := worth_ok A7
  have lk := look_ok A7 (by rw [s1_app, low_s1, x1]; simp) (by rw [s2_app, x2]; simp; omega)
  have lc := lowC_ok (p := (p : Int)) (u0 := some (.obj n)) (u1 := some (.str (wS y))) (u3 := some (.obj M')) (u4 := v4) (u5 := w5) (u6 := w6) (u7 := v7) (u8 := v8) (u10 := some (.int (s2 lots2))) (u11 := some (.int (s2 lots2 - s2 (lots2.map (lowF (p : Int)))))) (u12 := none) (u13 := none) (u14 := none) A7 (by omega) low_le
  have le := low_s2 (p : Int) lots2
  generalize lots2.map (lowF (p : Int)) = low at *
  have q : s2 low = s2 lots2 - (s2 lots2 - s2 low) := by omega
  have g0 : 0 ≤ s2 lots2 - s2 low := by omega
  have en := (told_pr.nil (S := S7 ++ [.lst [], .lst []]) (n := S7.length) (m := S7.length + 1) (xs := []) (by simp) (by unfold lstAt; rw [List.getElem?_append_right (by omega), show S7.length + 1 - S7.length = 1 by omega]; rfl)).1
  refine ⟨S7 ++ [.lst [], .lst []], ?_, ((kp_ch (k5.trans k6) c7 f5)).trans Kp.app, (dice_ch d6 c7 nin).app⟩
  rw [M_stockC_eq, e_runD]
  unfold stockC
  simp -implicitDefEqProofs [startD, e1, q1, hy, ini, hS3, e4, e5, e6, A6.ins, w6', e7, A7.ins, w7, lk, lc, en, le]
  rw [if_pos q]
  rfl
end Pr
set_option Elab.async false
set_option linter.all false
set_option maxRecDepth 100000
set_option maxHeartbeats 1000000
namespace Pr
open PySem PySem.Spec PyProof.Rows L2 DL
/-! ### a thing of parts -/
theorem sum_zero {α : Type} : ∀ (xs : List α), (xs.map fun _ => (0 : Int)).sum = 0
  | [] => rfl
  | x :: xs => by rw [List.map_cons, List.sum_cons, sum_zero xs]; rfl
theorem rng_nat (n : Nat) : rngD 0 1 n = (List.range n).map fun (i : Nat) => D.int (i : Int) := by
  unfold rngD
  refine List.map_congr_left fun i _ => ?_
  rw [Int.zero_add, Int.mul_one]
theorem sum_get : ∀ (xs : List Int) (n : Nat), xs.length ≤ n → ((List.range n).map fun k => (xs[k]?).getD 0).sum = xs.sum
  | [], n, _ => sum_zero (List.range n)
  | x :: xs, 0, h => by simp at h
  | x :: xs, n + 1, h => by
    have ih := sum_get xs n (by simpa using h)
    rw [List.range_succ_eq_map, List.map_cons, List.sum_cons, List.sum_cons, List.map_map, ← ih]
    rfl
theorem sum_add {α : Type} (f g : α → Int) : ∀ (xs : List α), (xs.map fun k => f k + g k).sum = (xs.map f).sum + (xs.map g).sum
  | [] => rfl
  | x :: xs => by simp only [List.map_cons, List.sum_cons]; rw [sum_add f g xs]; omega
def wpL (as bs : List Int) (n : Nat) : List Int := (List.range n).map fun k => (as[k]?).getD 0 + (bs[k]?).getD 0
theorem wp_sum {as bs : List Int} {n : Nat} (h1 : as.length ≤ n) (h2 : bs.length ≤ n) : (wpL as bs n).sum = as.sum + bs.sum := by
  unfold wpL
  rw [sum_add, sum_get as n h1, sum_get bs n h2]
def wpS : DE := (dSumX (diSeq (dVar 1)) (gN 7) (dB (dOp ltD (dVar 6) (dBlt lenD (daCons (dVar 7) daNil)))) (dOp ixD (dVar 7) (dVar 6)) [7])
theorem wp_item {as bs : List Int} {R k : Nat} {S : Store} {x0 x2 x3 x4 x5 u7 : Option D} (h : lstAt S R = some [.tup (as.map D.int), .tup (bs.map D.int)]) :
    wpS [x0, some (.obj R), x2, x3, x4, x5, some (.int (k : Int)), u7] S = .ok (.int ((as[k]?).getD 0 + (bs[k]?).getD 0)) S := by
  have g := grdL_iff.mpr h
  have ix : ∀ (xs : List Int) (hk : k < xs.length), atI (xs.map D.int) (k : Int) = some (.int ((xs[k]?).getD 0)) := fun xs hk => by
    rw [DL.atI_nat, List.getElem?_map, List.getElem?_eq_getElem hk]; rfl
  have no : ∀ (xs : List Int), ¬ k < xs.length → (xs[k]?).getD 0 = 0 := fun xs hk => by rw [List.getElem?_eq_none (by omega)]; rfl
  by_cases c1 : k < as.length
  · by_cases c2 : k < bs.length
    · have i1 := ix as c1
      have i2 := ix bs c2
      generalize (as[k]?).getD 0 = a at *
      generalize (bs[k]?).getD 0 = b at *
      simp -implicitDefEqProofs [wpS, h, g, c1, c2, i1, i2]
    · have i1 := ix as c1
      rw [no bs c2]
      generalize (as[k]?).getD 0 = a at *
      simp -implicitDefEqProofs [wpS, h, g, c1, c2, i1]
  · by_cases c2 : k < bs.length
    · have i2 := ix bs c2
      rw [no as c1]
      generalize (bs[k]?).getD 0 = b at *
      simp -implicitDefEqProofs [wpS, h, g, c1, c2, i2]
    · rw [no as c1, no bs c2]
      simp -implicitDefEqProofs [wpS, h, g, c1, c2]
def wpC : DE := (dLc (diRange1 (dVar 2)) (gN 6) dYes wpS [6])
theorem wp_all {as bs : List Int} {R n : Nat} {S : Store} {x0 x3 x4 x5 u6 u7 : Option D} (h : lstAt S R = some [.tup (as.map D.int), .tup (bs.map D.int)]) (hn : n < 1000) :
    wpC [x0, some (.obj R), some (.int (n : Int)), x3, x4, x5, u6, u7] S = .ok (.obj S.length) (S ++ [.lst ((wpL as bs n).map D.int)]) := by
  have hr : -1000000000000 ≤ (n : Int) ∧ (n : Int) ≤ 1000000000000 := by omega
  have := dLc_map (fi := diRange1 (dVar 2)) (tg := gN 6) (fe := wpS) (vs := [6]) (ρ := [x0, some (.obj R), some (.int (n : Int)), x3, x4, x5, u6, u7]) (S := S) (S1 := S) (grd := grdT) (List.range n) (fun (i : Nat) => D.int (i : Int)) (fun k => D.int ((as[k]?).getD 0 + (bs[k]?).getD 0)) (by simp -implicitDefEqProofs [hr]; exact rng_nat n) (fun X => rfl) (fun k hk X => ⟨[x0, some (.obj R), some (.int (n : Int)), x3, x4, x5, some (.int (k : Int)), u7], by simp, wp_item (lstAt_keep _ _ h)⟩) (by simp; omega)
  unfold wpC
  rw [this]
  unfold wpL
  rw [List.map_map]
  rfl
theorem even40 (S : Store) : M_even [.int 40, .int 0, .int 2] S = .ok (.tup [.int 20, .int 20]) (S ++ [.lst [.int 20, .int 20]]) :=
  even_ok (c := 40) (r := 0) (y := 2) (by decide) (by decide) (by decide) (by decide) (by decide) S
theorem with_parts_ok {c r : Int} {y : Nat} {S : Store} (h0 : 0 ≤ r) (hrc : r ≤ c) (hc : c < 2 ^ 40) (hy : 1 ≤ y) (hy2 : y ≤ 100) :
    ∃ T, M_with_parts [.tup [.tup [.int c, .int r, .int (y : Int)], .tup [.int 40, .int 0, .int 2]]] S = .ok (.tup ((wpL (evL (c - r) y) [20, 20] (max y 2)).map D.int)) (S ++ T) := by
  have ev := even_ok h0 hrc hc hy hy2
  have hm : max (y : Int) 2 = ((max y 2 : Nat) : Int) := by omega
  have hm0 : max (max 0 (y : Int)) 2 = ((max y 2 : Nat) : Int) := by omega
  have len := ev_len (c - r) y
  have w := fun (T : Store) x0 x3 x4 x5 u6 u7 => wp_all (as := evL (c - r) y) (bs := [20, 20]) (R := S.length) (n := max y 2) (S := S ++ .lst [.tup ((evL (c - r) y).map D.int), .tup [.int 20, .int 20]] :: T) (x0 := x0) (x3 := x3) (x4 := x4) (x5 := x5) (u6 := u6) (u7 := u7) (by rw [lstAt_app0]; rfl) (by omega)
  have e : M_with_parts = runD 8 (dSeq (dAsg (dLc (diSeq (dVar 0)) (gT 3 (gsCons (gN 3) (gsCons (gN 4) (gsCons (gN 5) gsNil)))) dYes (dCall 3 M_even (daCons (dVar 3) (daCons (dVar 4) (daCons (dVar 5) daNil)))) [3, 4, 5]) (gN 1))
    (dSeq (dAsg (dBlt maxT (daCons (dOp addD (dLst (daCons (dC (.int 0)) daNil)) (dLc (diSeq (dVar 1)) (gN 7) dYes (dBlt lenD (daCons (dVar 7) daNil)) [7])) daNil)) (gN 2))
    (dRet (dBlt tupleD (daCons wpC daNil))))) := rfl
  refine ⟨[DO.lst [D.tup ((evL (c - r) y).map D.int), D.tup [D.int 20, D.int 20]], DO.lst ((evL (c - r) y).map D.int), DO.lst [D.int 20, D.int 20], DO.lst [D.int 0], DO.lst [D.int ↑y, D.int 2], .lst [.int 0, .int ↑y, .int 2], .lst ((wpL (evL (c - r) y) [20, 20] (max y 2)).map D.int)], ?_⟩
  · rw [e, e_runD]
    generalize evL (c - r) y = L at *
    have ad := addD_obj (n := S.length + 3) (k := S.length + 4) (S := S ++ [DO.lst [D.tup (L.map D.int), D.tup [D.int 20, D.int 20]], DO.lst (L.map D.int), DO.lst [D.int 20, D.int 20], DO.lst [D.int 0], DO.lst [D.int ↑y, D.int 2]]) (xs := [D.int 0]) (ys := [D.int ↑y, D.int 2]) (by simp) (by simp) (by simp)
    have w1 := w [DO.lst (L.map D.int), DO.lst [D.int 20, D.int 20], DO.lst [D.int 0], DO.lst [D.int ↑y, D.int 2], .lst [.int 0, .int ↑y, .int 2]] (some (D.tup [D.tup [D.int c, D.int r, D.int ↑y], D.tup [D.int 40, D.int 0, D.int 2]])) none none none none none
    rw [← hm] at w1
    simp at ad w1
    simp -implicitDefEqProofs [startD, ev, even40, len, ad, w1]
end Pr
set_option Elab.async false
set_option linter.all false
set_option maxRecDepth 100000
set_option maxHeartbeats 1000000
namespace Pr
open PySem PySem.Spec PyProof.Rows L2 DL
/-! ### wear within years that begin elsewhere -/
def wyB : DS := (dSeq (dAsg (dOp fdivD (dOp mulD (dVar 4) (dVar 1)) (dC (.int 12))) (gN 5))
  (dSeq (dDrop (dApp (dVar 2) (dOp addD (dVar 3) (dVar 5))))
  (dAsg (dOp subD (dVar 4) (dVar 5)) (gN 3))))
theorem wy_loop {mo : Int} {x0 : Option D} {S : Store} (hm : mo.natAbs < 18446744073709551616) : ∀ (es : List Int) (acc : List Int) (car : Int) (u4 u5 : Option D), acc.length + es.length < 1000000 →
    ∃ (acc' : List Int) (car' : Int) (v4 v5 : Option D), forD grdT (gN 4) wyB (es.map D.int) [x0, some (.int mo), some (.obj S.length), some (.int car), u4, u5] (S ++ [.lst (acc.map D.int)]) = .nx [x0, some (.int mo), some (.obj S.length), some (.int car'), v4, v5] (S ++ [.lst (acc'.map D.int)]) ∧
      acc'.sum + car' = acc.sum + car + es.sum ∧ acc'.length = acc.length + es.length
  | [], acc, car, u4, u5, hl => ⟨acc, car, u4, u5, by simp, by simp, by simp⟩
  | e :: es, acc, car, u4, u5, hl => by
    rw [List.length_cons] at hl
    obtain ⟨acc', car', v4, v5, z, s, l⟩ := wy_loop hm es (acc ++ [car + e * mo / 12]) (e - e * mo / 12) (some (.int e)) (some (.int (e * mo / 12))) (by simp; omega)
    refine ⟨acc', car', v4, v5, ?_, ?_, ?_⟩
    · rw [← z, List.map_cons, List.map_append, List.map_cons, List.map_nil]
      have ha : (acc.map D.int).length < 1000000 := by rw [List.length_map]; omega
      have fd : ∀ (i : Int) (S : Store), fdivD (.int i) (.int 12) S = some (.int (i / 12), S) := fun i S => fdiv_small (by decide) (by decide)
      generalize acc.map D.int = A at *
      simp -implicitDefEqProofs [wyB, mulD_r hm, fd, ha]
    · rw [s, List.sum_append, List.sum_cons, List.sum_cons, List.sum_nil]; omega
    · rw [l]; simp; omega
def wyL : DS := (dFor (diSeq (dVar 0)) (gN 4) wyB)
theorem within_ok {mo : Int} {es : List Int} {S : Store} (h1 : 1 ≤ mo) (h2 : mo ≤ 12) (hn : es ≠ []) (hl : es.length < 1000) :
    ∃ (R : List Int) (T : Store), M_within_year [.tup (es.map D.int), .int mo] S = .ok (.tup (R.map D.int)) (S ++ T) ∧ R.sum = es.sum := by
  obtain ⟨acc, car, v4, v5, z, s, l⟩ := wy_loop (mo := mo) (x0 := some (.tup (es.map D.int))) (S := S) (by omega) es [] 0 none none (by simp; omega)
  have c1 : 0 < mo := by omega
  have ln : es.length ≠ 0 := fun h => hn (List.eq_nil_of_length_eq_zero h)
  have zz : wyL [some (.tup (es.map D.int)), some (.int mo), some (.obj S.length), some (.int 0), none, none] (S ++ [.lst []]) = .nx [some (.tup (es.map D.int)), some (.int mo), some (.obj S.length), some (.int car), v4, v5] (S ++ [.lst (acc.map D.int)]) := by
    unfold wyL
    rw [← z]
    simp -implicitDefEqProofs
  have e : M_within_year = runD 6 (dSeq (dIfS (dOrT (dNotT (dB (dChain ltD leD (dC (.int 0)) (dVar 1) (dC (.int 12))))) (dB (dOp eqD (dBlt lenD (daCons (dVar 0) daNil)) (dC (.int 0))))) (dRaise "BadRule") dNext)
    (dSeq (dPar2 2 3 (daCons (dLst daNil) (daCons (dC (.int 0)) daNil)))
    (dSeq wyL
    (dSeq (dIfS (dB (dOp ltD (dVar 1) (dC (.int 12)))) (dDrop (dApp (dVar 2) (dVar 3))) (dAugS (dVar 2) (dUn negD (dC (.int 1))) iaddD (dVar 3)))
    (dRet (dBlt tupleD (daCons (dVar 2) daNil))))))) := rfl
  simp at s l
  by_cases c : mo < 12
  · refine ⟨acc ++ [car], [.lst ((acc ++ [car]).map D.int)], ?_, by rw [List.sum_append, List.sum_singleton]; omega⟩
    have ha : (acc.map D.int).length < 1000000 := by rw [List.length_map]; omega
    rw [e, e_runD, List.map_append, List.map_cons, List.map_nil]
    generalize acc.map D.int = A at *
    simp -implicitDefEqProofs [startD, c1, h2, ln, zz, c, ha]
  · have na : acc ≠ [] := fun h => by rw [h] at l; simp at l; omega
    obtain ⟨A, x, rfl⟩ : ∃ A x, acc = A ++ [x] := ⟨acc.dropLast, acc.getLast na, (List.dropLast_concat_getLast na).symm⟩
    refine ⟨A ++ [x + car], [.lst ((A ++ [x + car]).map D.int)], ?_, by simp at s ⊢; omega⟩
    rw [List.map_append, List.map_cons, List.map_nil] at zz
    rw [e, e_runD, List.map_append, List.map_cons, List.map_nil]
    generalize A.map D.int = B at *
    have at1 := atI_last B (.int x)
    have ix : ixN (B.length + 1) (-1) = some B.length := end_idx _
    simp -implicitDefEqProofs [startD, c1, h2, ln, zz, c, at1, ix]
end Pr
set_option Elab.async false
set_option linter.all false
set_option maxRecDepth 100000
set_option maxHeartbeats 1000000
namespace Pr
open PySem PySem.Spec PyProof.Rows L2 DL
theorem tested_ok (a b : Int) (S : Store) : M_tested [.int a, .int b] S = .ok (.tup [.int (max 0 (a - b)), .int (min a b)]) S := by
  simp -implicitDefEqProofs only [M_tested, e_runD, f_tested]
  simp -implicitDefEqProofs [startD]
theorem sliceD_o (n : Nat) (lo hi : Option Int) (S : Store) : sliceD (.obj n) lo hi S = (lstAt S n).map fun xs => newO (.lst (cutD xs lo hi)) S := rfl
def kp3 : List D := [.int 10, .int 20, .int 40]
theorem cheaper_ok {n : Nat} {S : Store} (h : lstAt S n = some kp3) : M_cheaper [.int 3, .obj n, .int 50, .int 5] S = .ok (.int 0) (S ++ [.lst kp3]) := by
  have c0 : cutD kp3 (some 0) none = kp3 := rfl
  have m5 : (5 : Int).natAbs < 18446744073709551616 := by decide
  have i3 : intsOf kp3 = some [10, 20, 40] := rfl
  simp -implicitDefEqProofs only [M_cheaper, e_runD, f_cheaper]
  simp -implicitDefEqProofs [startD, mulD_l m5, sliceD_o, h, c0, i3]
def dueE : DE := (dLc (diRange1 (dC (.int 3))) (gN 8) (dB (dOp leD (dOp subD (dC (.int 50)) (dOp mulD (dC (.int 5)) (dOp subD (dC (.int 3)) (dVar 8)))) (dBlt sumLT (daCons (dSl (dVar 6) (dpSome (dVar 8)) dpNone) daNil)))) (dVar 8) [8])
theorem due_ok {n : Nat} {S : Store} {x0 x1 x2 x3 x4 x5 x7 x8 : Option D} (h : lstAt S n = some kp3) : dueE [x0, x1, x2, x3, x4, x5, some (.obj n), x7, x8] S = .ok (.obj S.length) (S ++ [.lst [.int 0, .int 1], .lst kp3, .lst [.int 20, .int 40], .lst [.int 40]]) := by
  have c0 : cutD kp3 (some 0) none = kp3 := rfl
  have c1 : cutD kp3 (some 1) none = [.int 20, .int 40] := rfl
  have c2 : cutD kp3 (some 2) none = [.int 40] := rfl
  have m5 : (5 : Int).natAbs < 18446744073709551616 := by decide
  have i3 : intsOf kp3 = some [10, 20, 40] := rfl
  have hk : ∀ T, lstAt (S ++ T) n = some kp3 := fun T => lstAt_keep _ _ h
  unfold dueE
  simp -implicitDefEqProofs [mulD_l m5, sliceD_o, hk, c0, c1, c2, i3]
theorem hand_ok (S : Store) : ∃ T, M_by_hand [.tup [.tup [.int 3, .int 10], .tup [.int 2, .int 8]], .tup [.tup [.int 0, .int 1], .tup [.int 1, .int 2]]] S = .ok (.tup [.int 11, .tup [.tup [.int 2, .int 7]]]) (S ++ T) := by
  have p1 := fun S => part_small (t := 10) (b := 3) (by decide) (by decide) (by decide) S
  have r1 := fun S => rounded_part (t := 10) (b := 3) (by decide) (by decide) (by decide) (by decide) S
  have p2 := fun S => part_small (t := 16) (b := 2) (by decide) (by decide) (by decide) S
  have r2 := fun S => rounded_part (t := 16) (b := 2) (by decide) (by decide) (by decide) (by decide) S
  rw [show hu 10 3 = 3 by decide] at r1
  rw [show hu 16 2 = 8 by decide] at r2
  have m10 : (10 : Int).natAbs < 18446744073709551616 := by decide
  have m8 : (8 : Int).natAbs < 18446744073709551616 := by decide
  have ix0 : ixN 2 0 = some 0 := rfl
  have ix1 : ixN 2 1 = some 1 := rfl
  refine ⟨[.lst [.obj (S.length + 3), .obj (S.length + 4)], .lst [.int 3, .int 10], .lst [.int 2, .int 8], .lst [.int 2, .int 7], .lst [.int 0, .int 0], .lst [.tup [.int 2, .int 7]]], ?_⟩
  simp -implicitDefEqProofs only [M_by_hand, e_runD, f_by_hand]
  simp -implicitDefEqProofs [startD, p1, r1, p2, r2, mulD_l m10, mulD_l m8, ix0, ix1]
theorem hand_short (S : Store) : ∃ T, M_by_hand [.tup [.tup [.int 3, .int 10]], .tup [.tup [.int 0, .int 4]]] S = .exn ⟨"Short"⟩ (S ++ T) := by
  refine ⟨[.lst [.obj (S.length + 1)], .lst [.int 3, .int 10]], ?_⟩
  simp -implicitDefEqProofs only [M_by_hand, e_runD, f_by_hand]
  simp -implicitDefEqProofs [startD]
theorem ne_hand (S : Store) : neD (.tup [.int 11, .tup [.tup [.int 2, .int 7]]]) (.tup [.int 11, .tup [.tup [.int 2, .int 7]]]) S = some (.bl false, S) :=
  neD_same (p := .tuple [.int 11, .tuple [.tuple [.int 2, .int 7]]]) rfl rfl (by decide)
def moreB : DS :=
  (dSeq (dAsg (dCall 1 M_with_parts (daCons (dTup (daCons (dTup (daCons (dVar 1) (daCons (dVar 2) (daCons (dVar 3) daNil)))) (daCons (dTup (daCons (dC (.int 40)) (daCons (dC (.int 0)) (daCons (dC (.int 2)) daNil)))) daNil))) daNil)) (gN 5))
  (dSeq (dIfS (dB (dOp neD (dBlt sumLT (daCons (dVar 5) daNil)) (dOp addD (dOp subD (dVar 1) (dVar 2)) (dC (.int 40)))))
  (dRet (dC (.bl false)))
  dNext)
  (dSeq (dIfS (dOrT (dB (dOp neD (dBlt sumLT (daCons (dCall 2 M_within_year (daCons (dVar 4) (daCons (dOp addD (dC (.int 1)) (dCall 2 M__law_roll (daCons (dVar 0) (daCons (dC (.int 12)) daNil)))) daNil))) daNil)) (dOp subD (dVar 1) (dVar 2)))) (dB (dOp neD (dCall 2 M_tested (daCons (dC (.int 50)) (daCons (dC (.int 30)) daNil))) (dTup (daCons (dC (.int 20)) (daCons (dC (.int 30)) daNil))))))
  (dRet (dC (.bl false)))
  dNext)
  (dSeq (dIfS (dB (dOp neD (dCall 2 M_tested (daCons (dC (.int 50)) (daCons (dC (.int 60)) daNil))) (dTup (daCons (dC (.int 0)) (daCons (dC (.int 50)) daNil)))))
  (dRet (dC (.bl false)))
  dNext)
  (dSeq (dAsg (dLst (daCons (dC (.int 10)) (daCons (dC (.int 20)) (daCons (dC (.int 40)) daNil)))) (gN 6))
  (dSeq (dAsg dueE (gN 7))
  (dSeq (dIfS (dB (dOp neD (dCall 4 M_cheaper (daCons (dC (.int 3)) (daCons (dVar 6) (daCons (dC (.int 50)) (daCons (dC (.int 5)) daNil))))) (dIf (dB (dOp neD (dVar 7) (dLst daNil))) (dOp ixD (dVar 7) (dC (.int 0))) (dC .non))))
  (dRet (dC (.bl false)))
  dNext)
  (dSeq (dIfS (dB (dOp neD (dCall 2 M_by_hand (daCons (dTup (daCons (dTup (daCons (dC (.int 3)) (daCons (dC (.int 10)) daNil))) (daCons (dTup (daCons (dC (.int 2)) (daCons (dC (.int 8)) daNil))) daNil))) (daCons (dTup (daCons (dTup (daCons (dC (.int 0)) (daCons (dC (.int 1)) daNil))) (daCons (dTup (daCons (dC (.int 1)) (daCons (dC (.int 2)) daNil))) daNil))) daNil))) (dTup (daCons (dOp addD (dC (.int 3)) (dC (.int 8))) (daCons (dTup (daCons (dTup (daCons (dC (.int 2)) (daCons (dC (.int 7)) daNil))) daNil)) daNil)))))
  (dRet (dC (.bl false)))
  dNext)
  (dRet (dC (.bl true)))))))))))
theorem M_more_eq : M__law_more = runD 9 moreB := rfl
theorem law_more_ok {n : Nat} {c r : Int} {y : Nat} {S : Store} (hd : DiceAt S n) (h0 : 0 ≤ r) (hrc : r ≤ c) (hc : c < 2 ^ 40) (hy : 1 ≤ y) (hy2 : y ≤ 100) :
    ∃ S', M__law_more [.obj n, .int c, .int r, .int (y : Int), .tup ((evL (c - r) y).map D.int)] S = .ok (.bl true) S' ∧ Kp n S S' ∧ DiceAt S' n := by
  obtain ⟨T1, e1⟩ := with_parts_ok (S := S) h0 hrc hc hy hy2
  have d1 := hd.app (T := T1)
  have su : (wpL (evL (c - r) y) [20, 20] (max y 2)).sum = c - r + 40 := by
    rw [wp_sum (by rw [ev_len]; omega) (by simp; omega), ev_sum hy]; rfl
  obtain ⟨v, S2, hv, e2, k2, d2⟩ := roll d1 (show (0 : Int) < 12 by decide) (by decide)
  have k2' : Kp n S S2 := Kp.app.trans k2
  obtain ⟨R, T3, e3, sR⟩ := within_ok (mo := 1 + (v : Int)) (es := evL (c - r) y) (S := S2) (by omega) (by omega) (fun z => by have := ev_len (c - r) y; rw [z] at this; simp at this; omega) (by rw [ev_len]; omega)
  rw [ev_sum hy] at sR
  have i1 : intsOf ((wpL (evL (c - r) y) [20, 20] (max y 2)).map D.int) = some (wpL (evL (c - r) y) [20, 20] (max y 2)) := intsOf_map _
  have i2 : intsOf (R.map D.int) = some R := intsOf_map _
  generalize wpL (evL (c - r) y) [20, 20] (max y 2) = W at *
  generalize (evL (c - r) y).map D.int = L at *
  generalize W.map D.int = WD at *
  generalize R.map D.int = RD at *
  have d3 := d2.app (T := T3)
  have k3' : Kp n S (S2 ++ T3) := k2'.trans Kp.app
  generalize hS3 : S2 ++ T3 = S3 at *
  have t1 := fun S => tested_ok 50 30 S
  have t2 := fun S => tested_ok 50 60 S
  rw [show max (0 : Int) (50 - 30) = 20 by decide, show min (50 : Int) 30 = 30 by decide] at t1
  rw [show max (0 : Int) (50 - 60) = 0 by decide, show min (50 : Int) 60 = 50 by decide] at t2
  have h6 : lstAt (S3 ++ [.lst kp3]) S3.length = some kp3 := by simp
  have e4 := due_ok (x0 := some (.obj n)) (x1 := some (.int c)) (x2 := some (.int r)) (x3 := some (.int (y : Int))) (x4 := some (.tup L)) (x5 := some (.tup WD)) (x7 := none) (x8 := none) h6
  obtain ⟨S4, hS4⟩ : ∃ S4 : Store, S3 ++ [.lst kp3] ++ [.lst [.int 0, .int 1], .lst kp3, .lst [.int 20, .int 40], .lst [.int 40]] = S4 := ⟨_, rfl⟩
  rw [hS4] at e4
  have h64 : lstAt S4 S3.length = some kp3 := by rw [← hS4]; exact lstAt_keep _ _ h6
  have h74 : lstAt S4 (S3 ++ [DO.lst kp3]).length = some ([0, 1].map D.int) := by rw [← hS4, lstAt_app0]; rfl
  have d4 : DiceAt S4 n := by rw [← hS4]; exact d3.app.app
  have k4 : Kp n S S4 := by rw [← hS4]; exact (k3'.trans Kp.app).trans Kp.app
  have e5 := cheaper_ok h64
  obtain ⟨S5, hS5⟩ : ∃ S5 : Store, S4 ++ [.lst kp3] = S5 := ⟨_, rfl⟩
  rw [hS5] at e5
  have h75 : lstAt S5 (S3 ++ [DO.lst kp3]).length = some ([0, 1].map D.int) := by rw [← hS5]; exact lstAt_keep _ _ h74
  have d5 : DiceAt S5 n := by rw [← hS5]; exact d4.app
  have k5 : Kp n S S5 := by rw [← hS5]; exact k4.trans Kp.app
  have nn := (told_int.nil (S := S5 ++ [.lst []]) (n := (S3 ++ [DO.lst kp3]).length) (m := S5.length) (lstAt_keep _ _ h75) (by simp)).2
  have h76 : lstAt (S5 ++ [.lst []]) (S3 ++ [DO.lst kp3]).length = some ([0, 1].map D.int) := lstAt_keep _ _ h75
  have d6 := d5.app (T := [.lst []])
  have k6 : Kp n S (S5 ++ [.lst []]) := k5.trans Kp.app
  generalize hS6 : S5 ++ [DO.lst []] = S6 at *
  obtain ⟨T7, e7⟩ := hand_ok S6
  refine ⟨S6 ++ T7, ?_, k6.trans Kp.app, d6.app⟩
  have ls : ∀ (xs : List D), xs = kp3 → (DO.lst xs) = .lst kp3 := fun xs h => by rw [h]
  rw [M_more_eq, e_runD]
  unfold moreB
  rw [List.length_append, List.length_singleton] at e4 nn h76
  simp -implicitDefEqProofs [startD, e1, i1, su, e2, e3, hS3, i2, sR, t1, t2, neD_pair]
  rw [show [D.int 10, D.int 20, D.int 40] = kp3 from rfl]
  simp -implicitDefEqProofs [e4, e5, nn, hS6, h76, e7, ne_hand]
end Pr
set_option Elab.async false
set_option linter.all false
set_option maxRecDepth 100000
set_option maxHeartbeats 1000000
namespace Pr
open PySem PySem.Spec PyProof.Rows L2 DL
/-! ### near -/
theorem div_le_int {w y m : Int} (hy : 0 < y) (h : w ≤ m * y) : Rat.divInt w y ≤ (m : Rat) := by
  have c := cross (show y ≠ 0 by omega) (rfl : Rat.divInt w y = Rat.divInt w y)
  have p : (0 : Int) < ((Rat.divInt w y).den : Int) := by have := (Rat.divInt w y).den_nz; omega
  rw [Rat.le_iff, Rat.num_intCast, Rat.den_intCast]
  generalize (Rat.divInt w y).num = n at *
  generalize ((Rat.divInt w y).den : Int) = d at *
  refine Int.le_of_mul_le_mul_right (a := y) ?_ hy
  have e : n * ((1 : Nat) : Int) * y = w * d := by rw [show ((1 : Nat) : Int) = 1 from rfl, Int.mul_one]; exact c
  rw [e, Int.mul_assoc, Int.mul_comm d y, ← Int.mul_assoc]
  exact Int.mul_le_mul_of_nonneg_right h (Int.le_of_lt p)
theorem int_le_div {w y m : Int} (hy : 0 < y) (h : m * y ≤ w) : (m : Rat) ≤ Rat.divInt w y := by
  have c := cross (show y ≠ 0 by omega) (rfl : Rat.divInt w y = Rat.divInt w y)
  have p : (0 : Int) < ((Rat.divInt w y).den : Int) := by have := (Rat.divInt w y).den_nz; omega
  rw [Rat.le_iff, Rat.num_intCast, Rat.den_intCast]
  generalize (Rat.divInt w y).num = n at *
  generalize ((Rat.divInt w y).den : Int) = d at *
  refine Int.le_of_mul_le_mul_right (a := y) ?_ hy
  have e : n * ((1 : Nat) : Int) * y = w * d := by rw [show ((1 : Nat) : Int) = 1 from rfl, Int.mul_one]; exact c
  rw [e, Int.mul_assoc, Int.mul_comm d y, ← Int.mul_assoc]
  exact Int.mul_le_mul_of_nonneg_right h (Int.le_of_lt p)
theorem cmp_le {q r : Rat} (h : q ≤ r) : cmpQ q r ≤ 0 := by
  unfold cmpQ
  split
  · decide
  · split
    · decide
    · rename_i h1 h2
      exact absurd (Rat.le_antisymm h (Rat.not_lt.mp h1)) h2
theorem cmp_ge {q r : Rat} (h : r ≤ q) : 0 ≤ cmpQ q r := by
  unfold cmpQ
  rw [if_neg (Rat.not_lt.mpr h)]
  split <;> decide
theorem near_ok {w : Int} {y : Nat} {k : Int} (hy : 1 ≤ y) (hy2 : y ≤ 100) (hw : 0 ≤ w) (hw2 : w < 2 ^ 40) (hk : k = w / (y : Int) ∨ k = w / (y : Int) + 1) (S : Store) : M_near [pt (Rat.divInt w (y : Int)), .int k] S = .ok (.bl true) S := by
  have y0 : (0 : Int) < (y : Int) := by omega
  have d0 := Int.mul_ediv_add_emod w (y : Int)
  have d1 := Int.emod_nonneg w (show (y : Int) ≠ 0 by omega)
  have d2 := Int.emod_lt_of_pos w y0
  have f0 := Int.ediv_nonneg hw (Int.le_of_lt y0)
  have f1 : w / (y : Int) ≤ w := Int.ediv_le_self _ hw
  have hi : w ≤ (k + 1) * (y : Int) := by
    rw [Int.add_mul, Int.one_mul, Int.mul_comm k]
    have : (y : Int) * (w / (y : Int)) ≤ (y : Int) * k := Int.mul_le_mul_of_nonneg_left (by omega) (by omega)
    omega
  have lo : (k - 1) * (y : Int) ≤ w := by
    rw [Int.mul_comm]
    have : (y : Int) * (k - 1) ≤ (y : Int) * (w / (y : Int)) := Int.mul_le_mul_of_nonneg_left (by omega) (by omega)
    omega
  have sq : Sz 4000 (Rat.divInt w (y : Int)) := (divInt_sz (n := 90) (show (y : Int) ≠ 0 by omega) (by omega) (by omega)).up (by decide)
  have o1 := M_order_ok sq ((sz_int (k := k + 1) (n := 89) (by omega)).up (by decide)) S
  have o2 := M_order_ok sq ((sz_int (k := k - 1) (n := 89) (by omega)).up (by decide)) S
  rw [← tup_int] at o1 o2
  have c1 := cmp_le (div_le_int y0 hi)
  have c2 := cmp_ge (int_le_div y0 lo)
  generalize pt (Rat.divInt w (y : Int)) = q at *
  generalize cmpQ (Rat.divInt w (y : Int)) ((k + 1 : Int) : Rat) = a at *
  generalize cmpQ (Rat.divInt w (y : Int)) ((k - 1 : Int) : Rat) = b at *
  simp -implicitDefEqProofs only [M_near, e_runD, f_near]
  simp -implicitDefEqProofs [startD, o1, o2, c1, c2]
theorem mean_ok {c r : Int} {y : Nat} (h0 : 0 ≤ r) (hrc : r ≤ c) (hc : c < 2 ^ 40) (hy : 1 ≤ y) (hy2 : y ≤ 100) (S : Store) : M_mean_wear [.int c, .int r, .int (y : Int)] S = .ok (pt (Rat.divInt (c - r) (y : Int))) S := by
  have p := part_small (t := c - r) (b := (y : Int)) (by omega) (by omega) (by omega) S
  simp -implicitDefEqProofs only [M_mean_wear, e_runD, f_mean_wear]
  simp -implicitDefEqProofs [startD, check_ok h0 hrc hy, p]
/-! ### what is told of the rows -/
theorem foldl_min_nn : ∀ (xs : List Int) (a : Int), 0 ≤ a → (∀ e ∈ xs, 0 ≤ e) → 0 ≤ xs.foldl min a
  | [], a, h, _ => h
  | x :: xs, a, h, hx => foldl_min_nn xs (min a x) (by have := hx x List.mem_cons_self; omega) fun e he => hx e (List.mem_cons_of_mem _ he)
theorem foldl_min_ge : ∀ (xs : List Int) (a q : Int), q ≤ a → (∀ e ∈ xs, q ≤ e) → q ≤ xs.foldl min a
  | [], a, q, h, _ => h
  | x :: xs, a, q, h, hx => foldl_min_ge xs (min a x) q (by have := hx x List.mem_cons_self; omega) fun e he => hx e (List.mem_cons_of_mem _ he)
theorem foldl_max_le : ∀ (xs : List Int) (a q : Int), a ≤ q → (∀ e ∈ xs, e ≤ q) → xs.foldl max a ≤ q
  | [], a, q, h, _ => h
  | x :: xs, a, q, h, hx => foldl_max_le xs (max a x) q (by have := hx x List.mem_cons_self; omega) fun e he => hx e (List.mem_cons_of_mem _ he)
theorem min_of {ws : List Int} {q : Int} (ne : ws ≠ []) (h : ∀ e ∈ ws, q ≤ e) : ∃ m, minI ws = some m ∧ q ≤ m := by
  cases ws with
  | nil => exact absurd rfl ne
  | cons x xs => exact ⟨_, rfl, foldl_min_ge xs x q (h x List.mem_cons_self) fun e he => h e (List.mem_cons_of_mem _ he)⟩
theorem max_of {ws : List Int} {q : Int} (ne : ws ≠ []) (h : ∀ e ∈ ws, e ≤ q) : ∃ m, maxI ws = some m ∧ m ≤ q := by
  cases ws with
  | nil => exact absurd rfl ne
  | cons x xs => exact ⟨_, rfl, foldl_max_le xs x q (h x List.mem_cons_self) fun e he => h e (List.mem_cons_of_mem _ he)⟩
def rowB : DS := (dIfS (dOrT (dB (dOp neD (dBlt sumLT (daCons (dVar 8) daNil)) (dOp subD (dVar 2) (dVar 5)))) (dOrT (dB (dOp ltD (dBlt minT (daCons (dVar 8) daNil)) (dC (.int 0)))) (dB (dOp neD (dOp ixD (dCall 2 M_left_after (daCons (dVar 2) (daCons (dVar 8) daNil))) (dOp subD (dBlt lenD (daCons (dVar 8) daNil)) (dC (.int 1)))) (dVar 5)))))
  (dRet (dC (.bl false)))
  dNext)
theorem row_ok {c r : Int} {ws : List Int} (W : Wear (c - r) ws) (hl : ws.length < 1000) (x0 x1 x3 x4 x6 x7 x9 x10 : Option D) (S : Store) :
    rowB [x0, x1, some (.int c), x3, x4, some (.int r), x6, x7, some (.tup (ws.map D.int)), x9, x10] S = .nx [x0, x1, some (.int c), x3, x4, some (.int r), x6, x7, some (.tup (ws.map D.int)), x9, x10] (S ++ [.lst ((lftL c ws).map D.int)]) := by
  have lo := left_ok (l := c) hl S
  obtain ⟨m, m1, m2⟩ := min_of W.ne W.nn
  have m3 : ¬ m < 0 := by omega
  have i1 : intsOf (ws.map D.int) = some ws := intsOf_map _
  have la := lft_last ws c W.ne
  rw [W.sum, show c - (c - r) = r by omega] at la
  have ln : ws.length ≠ 0 := fun h => W.ne (List.eq_nil_of_length_eq_zero h)
  have at1 : atI ((lftL c ws).map D.int) ((ws.length : Int) - 1) = some (.int r) := by
    rw [show (ws.length : Int) - 1 = ((ws.length - 1 : Nat) : Int) by omega, DL.atI_nat, List.getElem?_map, la]; rfl
  have len : (ws.map D.int).length = ws.length := List.length_map ..
  have sm := W.sum
  generalize (lftL c ws).map D.int = L at *
  generalize ws.map D.int = V at *
  simp -implicitDefEqProofs [rowB, i1, sm, m1, m3, lo, len, at1]
def rowTail (wss : List (List Int)) (c : Int) : Store := wss.map fun ws => DO.lst ((lftL c ws).map D.int)
theorem rows_loop {c r : Int} {n : Nat} {all : List D} {x0 x1 x3 x4 x6 x7 x9 x10 : Option D} : ∀ (wss : List (List Int)) (S : Store) (u8 : Option D), lstAt S n = some all → (∀ ws ∈ wss, Wear (c - r) ws ∧ ws.length < 1000) →
    ∃ v8 T, forD (grdL n all) (gN 8) rowB (wss.map fun ws => D.tup (ws.map D.int)) [x0, x1, some (.int c), x3, x4, some (.int r), x6, x7, u8, x9, x10] S = .nx [x0, x1, some (.int c), x3, x4, some (.int r), x6, x7, v8, x9, x10] (S ++ T)
  | [], S, u8, h, hw => ⟨u8, [], by simp [grdL_iff.mpr h]⟩
  | ws :: wss, S, u8, h, hw => by
    obtain ⟨w1, w2⟩ := hw ws List.mem_cons_self
    have e1 := row_ok w1 w2 x0 x1 x3 x4 x6 x7 x9 x10 S
    obtain ⟨v8, T, e2⟩ := rows_loop (x0 := x0) (x1 := x1) (x3 := x3) (x4 := x4) (x6 := x6) (x7 := x7) (x9 := x9) (x10 := x10) wss (S ++ [.lst ((lftL c ws).map D.int)]) (some (.tup (ws.map D.int))) (lstAt_keep _ _ h) fun z hz => hw z (List.mem_cons_of_mem _ hz)
    refine ⟨v8, [.lst ((lftL c ws).map D.int)] ++ T, ?_⟩
    rw [← List.append_assoc, ← e2, List.map_cons]
    have g := grdL_iff.mpr h
    simp -implicitDefEqProofs [g, e1]
end Pr
set_option Elab.async false
set_option linter.all false
set_option maxRecDepth 100000
set_option maxHeartbeats 1000000
namespace Pr
open PySem PySem.Spec PyProof.Rows L2 DL
/-! ### slower -/
theorem slower_ok {w : Int} {y : Nat} (hw : 0 ≤ w) (h1 : 1 ≤ y) (h2 : y ≤ 6) (S : Store) : M_is_slower [.tup ((evL w y).map D.int), .tup ((dgL w (dgT y) y 0 y).map D.int)] S = .ok (.bl true) S := by
  have l1 := ev_len w y
  have l2 := dg_len (w := w) (s := dgT y) (y := y) y 0
  have hr : -1000000000000 ≤ (y : Int) + 1 ∧ (y : Int) + 1 ≤ 1000000000000 := by omega
  have t1 : ∀ k : Nat, k ≤ y → ((evL w y).take k).sum = w * (k : Int) / (y : Int) := fun k hk => ev_pre hk h1
  have t2 : ∀ k : Nat, k ≤ y → ((dgL w (dgT y) y 0 y).take k).sum = w * dgS y k / dgT y := fun k hk => by
    rw [dg_pre y 0 k hk, Nat.zero_add]
    simp [dgS]
  have slow : ∀ k : Nat, k ≤ y → ((evL w y).take k).sum ≤ ((dgL w (dgT y) y 0 y).take k).sum := fun k hk => by rw [t1 k hk, t2 k hk]; exact dg_slow hw h1 h2 hk
  have z : anyL false grdT (gN 2) dYes (dOp leD (dBlt sumLT (daCons (dSl (dVar 0) dpNone (dpSome (dVar 2))) daNil)) (dBlt sumLT (daCons (dSl (dVar 1) dpNone (dpSome (dVar 2))) daNil))) [some (.tup ((evL w y).map D.int)), some (.tup ((dgL w (dgT y) y 0 y).map D.int)), none] (rngD 0 1 (y + 1)) S = .ok true S := by
    rw [rng_nat]
    refine anyL_none (stop := false) (grd := grdT) (a := fun (i : Nat) => D.int (i : Int)) rfl (List.range (y + 1)) fun k hk => ⟨_, rfl, rfl, ?_⟩
    have hk2 := List.mem_range.mp hk
    have s := slow k (by omega)
    have c1 : cutD ((evL w y).map D.int) none (some (k : Int)) = ((evL w y).take k).map D.int := by rw [cut_take, List.map_take]
    have c2 : cutD ((dgL w (dgT y) y 0 y).map D.int) none (some (k : Int)) = ((dgL w (dgT y) y 0 y).take k).map D.int := by rw [cut_take, List.map_take]
    have i1 : intsOf (((evL w y).take k).map D.int) = some ((evL w y).take k) := intsOf_map _
    have i2 : intsOf (((dgL w (dgT y) y 0 y).take k).map D.int) = some ((dgL w (dgT y) y 0 y).take k) := intsOf_map _
    generalize ((evL w y).take k).map D.int = A1 at *
    generalize ((dgL w (dgT y) y 0 y).take k).map D.int = A2 at *
    generalize (evL w y).map D.int = B1 at *
    generalize (dgL w (dgT y) y 0 y).map D.int = B2 at *
    simp -implicitDefEqProofs [sliceD_tup, c1, c2, i1, i2, s]
  have n1 : ((evL w y).map D.int).length = y := by rw [List.length_map, l1]
  have n2 : ((dgL w (dgT y) y 0 y).map D.int).length = y := by rw [List.length_map, l2]
  have tn : ((y : Int) + 1).toNat = y + 1 := by omega
  generalize (evL w y).map D.int = B1 at *
  generalize (dgL w (dgT y) y 0 y).map D.int = B2 at *
  simp -implicitDefEqProofs only [M_is_slower, e_runD, f_is_slower]
  simp -implicitDefEqProofs [startD, n1, n2, hr, tn, z]
/-! ### when it is worn out -/
theorem worn_loop {r : Int} {S : Store} {x0 x2 : Option D} : ∀ (ls : List Int) (i : Nat) (u3 u4 : Option D), (∃ l ∈ ls, l ≤ r) →
    ∃ k : Int, forD grdT (gT 2 (gsCons (gN 3) (gsCons (gN 4) gsNil))) (dIfS (dB (dOp leD (dVar 4) (dVar 1))) (dRet (dVar 3)) dNext) ((ls.zipIdx i).map fun z => D.tup [.int (z.2 : Int), .int z.1]) [x0, some (.int r), x2, u3, u4] S = .rt (.int k) S
  | [], i, u3, u4, h => by obtain ⟨l, hl, _⟩ := h; cases hl
  | l :: ls, i, u3, u4, h => by
    by_cases c : l ≤ r
    · exact ⟨(i : Int), by simp -implicitDefEqProofs [c]⟩
    · have h2 : ∃ l ∈ ls, l ≤ r := by
        obtain ⟨x, hx, hx2⟩ := h
        rcases List.mem_cons.mp hx with rfl | hx
        · exact absurd hx2 c
        · exact ⟨x, hx, hx2⟩
      obtain ⟨k, z⟩ := worn_loop (x0 := x0) (x2 := x2) ls (i + 1) (some (.int (i : Int))) (some (.int l)) h2
      refine ⟨k, ?_⟩
      rw [← z]
      simp -implicitDefEqProofs [c]
theorem enum_ints : ∀ (ls : List Int), enumL (ls.map D.int) = (ls.zipIdx 0).map fun z => D.tup [.int (z.2 : Int), .int z.1] := fun ls => by
  unfold enumL
  refine List.ext_getElem? fun i => ?_
  by_cases h : i < ls.length
  · simp [h]
  · simp [h]
theorem worn_ok {c r : Int} {ws : List Int} (W : Wear (c - r) ws) (hl : ws.length < 1000) (S : Store) : ∃ k : Int, M_when_worn [.int c, .int r, .tup (ws.map D.int)] S = .ok (.int k) (S ++ [.lst ((lftL c ws).map D.int)]) := by
  have lo := left_ok (l := c) hl S
  have la := lft_last ws c W.ne
  rw [W.sum, show c - (c - r) = r by omega] at la
  obtain ⟨k, z⟩ := worn_loop (r := r) (x0 := some (.int c)) (x2 := some (.tup (ws.map D.int))) (S := S ++ [.lst ((lftL c ws).map D.int)]) (lftL c ws) 0 none none ⟨r, List.mem_of_getElem? la, Int.le_refl _⟩
  rw [← enum_ints] at z
  refine ⟨k, ?_⟩
  generalize (lftL c ws).map D.int = L at *
  simp -implicitDefEqProofs only [M_when_worn, e_runD, f_when_worn]
  simp -implicitDefEqProofs [startD, lo, z]
theorem sold_ok (c : Int) (ws : List Int) (S : Store) : M_sold [.int c, .tup (ws.map D.int), .int 0, .int (c + 3)] S = .ok (.tup [.int c, .int 3]) S := by
  have c0 : cutD (ws.map D.int) none (some 0) = [] := by rw [show (0 : Int) = ((0 : Nat) : Int) from rfl, cut_take]; rfl
  have e3 : c + 3 - c = 3 := by omega
  simp -implicitDefEqProofs only [M_sold, e_runD, f_sold]
  simp -implicitDefEqProofs [startD, sliceD_tup, c0, e3]
end Pr
set_option Elab.async false
set_option linter.all false
set_option maxRecDepth 100000
set_option maxHeartbeats 2000000
namespace Pr
open PySem PySem.Spec PyProof.Rows L2 DL
def nearC : DE := (dLc (diSeq (dVar 6)) (gN 9) (dNotT (dB (dCall 2 M_near (daCons (dCall 3 M_mean_wear (daCons (dVar 2) (daCons (dVar 5) (daCons (dVar 3) daNil)))) (daCons (dVar 9) daNil))))) (dVar 9) [9])
def tameC : DE := (dLc (diRange2 (dC (.int 1)) (dBlt lenD (daCons (dOp ixD (dVar 7) (dC (.int 1))) daNil))) (gN 10) (dB (dOp gtD (dOp ixD (dOp ixD (dVar 7) (dC (.int 1))) (dVar 10)) (dOp addD (dOp ixD (dOp ixD (dVar 7) (dC (.int 1))) (dOp subD (dVar 10) (dC (.int 1)))) (dC (.int 1))))) (dVar 10) [10])
def rowsL : DS := (dFor (diSeq (dOp addD (dLst (daCons (dVar 6) daNil)) (dVar 7))) (gN 8) rowB)
def lawB : DS :=
  (dSeq (dIfS (dOrT (dNotT (dB (dCall 1 M__law_stock (daCons (dVar 1) daNil)))) (dNotT (dB (dCall 1 M__law_asked (daCons (dVar 1) daNil)))))
  (dRet (dC (.bl false)))
  dNext)
  (dSeq (dAsg (dTup (daCons (dOp addD (dC (.int 20)) (dCall 2 M__law_roll (daCons (dVar 1) (daCons (dC (.int 400)) daNil)))) (daCons (dOp addD (dC (.int 1)) (dCall 2 M__law_roll (daCons (dVar 1) (daCons (dC (.int 6)) daNil)))) (daCons (dTup (daCons (dOp addD (dC (.int 1)) (dCall 2 M__law_roll (daCons (dVar 1) (daCons (dC (.int 8)) daNil)))) (daCons (dC (.int 10)) daNil))) daNil)))) (gT 3 (gsCons (gN 2) (gsCons (gN 3) (gsCons (gN 4) gsNil)))))
  (dSeq (dAsg (dCall 2 M__law_roll (daCons (dVar 1) (daCons (dC (.int 20)) daNil))) (gN 5))
  (dSeq (dAsg (dTup (daCons (dCall 3 M_even (daCons (dVar 2) (daCons (dVar 5) (daCons (dVar 3) daNil)))) (daCons (dLst (daCons (dCall 4 M_falling (daCons (dVar 2) (daCons (dVar 5) (daCons (dVar 3) (daCons (dVar 4) daNil))))) (daCons (dCall 4 M_switched (daCons (dVar 2) (daCons (dVar 5) (daCons (dVar 3) (daCons (dVar 4) daNil))))) (daCons (dCall 3 M_by_digits (daCons (dVar 2) (daCons (dVar 5) (daCons (dVar 3) daNil)))) (daCons (dCall 4 M_by_use (daCons (dVar 2) (daCons (dVar 5) (daCons (dLst (daCons (dC (.int 5)) (daCons (dC (.int 5)) (daCons (dC (.int 5)) daNil)))) (daCons (dC (.int 12)) daNil))))) daNil))))) daNil))) (gT 2 (gsCons (gN 6) (gsCons (gN 7) gsNil))))
  (dSeq rowsL
  (dSeq (dIfS (dB (dOp gtD (dOp subD (dBlt maxT (daCons (dVar 6) daNil)) (dBlt minT (daCons (dVar 6) daNil))) (dC (.int 1))))
  (dRet (dC (.bl false)))
  dNext)
  (dSeq (dIfS (dB (dOp neD nearC (dLst daNil)))
  (dRet (dC (.bl false)))
  dNext)
  (dSeq (dIfS (dNotT (dB (dCall 2 M_is_slower (daCons (dVar 6) (daCons (dOp ixD (dVar 7) (dC (.int 2))) daNil)))))
  (dRet (dC (.bl false)))
  dNext)
  (dSeq (dIfS (dB (dOp neD tameC (dLst daNil)))
  (dRet (dC (.bl false)))
  dNext)
  (dSeq (dIfS (dOrT (dB (dOp isND (dCall 3 M_when_worn (daCons (dVar 2) (daCons (dVar 5) (daCons (dVar 6) daNil)))) (dC .non))) (dB (dOp neD (dCall 4 M_sold (daCons (dVar 2) (daCons (dVar 6) (daCons (dC (.int 0)) (daCons (dOp addD (dVar 2) (dC (.int 3))) daNil))))) (dTup (daCons (dVar 2) (daCons (dC (.int 3)) daNil))))))
  (dRet (dC (.bl false)))
  dNext)
  (dSeq (dIfS (dNotT (dB (dCall 5 M__law_more (daCons (dVar 1) (daCons (dVar 2) (daCons (dVar 5) (daCons (dVar 3) (daCons (dVar 6) daNil))))))))
  (dRet (dC (.bl false)))
  dNext)
  (dSeq (dIfS (dB (dOp neD (dTold raisable tellers (dCall 3 M_even (daCons (dC (.int 5)) (daCons (dC (.int 9)) (daCons (dC (.int 2)) daNil))))) (dC (.str "rule"))))
  (dRet (dC (.bl false)))
  dNext)
  (dSeq (dIfS (dB (dOp neD (dTold raisable tellers (dCall 4 M_falling (daCons (dC (.int 9)) (daCons (dC (.int 0)) (daCons (dC (.int 2)) (daCons (dTup (daCons (dC (.int 1)) (daCons (dC (.int 1)) daNil))) daNil)))))) (dC (.str "rule"))))
  (dRet (dC (.bl false)))
  dNext)
  (dSeq (dIfS (dB (dOp neD (dTold raisable tellers (dCall 2 M_by_hand (daCons (dTup (daCons (dTup (daCons (dC (.int 3)) (daCons (dC (.int 10)) daNil))) daNil)) (daCons (dTup (daCons (dTup (daCons (dC (.int 0)) (daCons (dC (.int 4)) daNil))) daNil)) daNil)))) (dC (.str "short"))))
  (dRet (dC (.bl false)))
  dNext)
  (dIfS (dB (dOp neD (dTold raisable tellers (dMake "Stock" 2 M_Stock___init__ (daCons (dC (.str "none")) daNil))) (dC (.str "rule"))))
  (dRet (dC (.bl false)))
  dNext)))))))))))))))

theorem M_law_eq : M_law = runD 11 (dSeq (dFor (diSeq (dCall 2 (runD 4 (roundsF (runD 1 diceF))) (daCons (dVar 0) (daCons (dC (.int ((3 : Nat) : Int))) daNil)))) (gN 1) lawB) (dRet (dC (.bl true)))) := rfl
/-! ### what is told -/
theorem even_no (S : Store) : M_even [.int 5, .int 9, .int 2] S = .exn ⟨"BadRule"⟩ S := by
  have c : M_check_thing [.int 5, .int 9, .int 2] S = .exn ⟨"BadRule"⟩ S := by
    simp -implicitDefEqProofs only [M_check_thing, e_runD, f_check_thing]
    simp -implicitDefEqProofs [startD]
  simp -implicitDefEqProofs only [M_even, e_runD, f_even]
  simp -implicitDefEqProofs [startD, c]
theorem fall_no (S : Store) : M_falling [.int 9, .int 0, .int 2, .tup [.int 1, .int 1]] S = .exn ⟨"BadRule"⟩ S := by
  have c : M_check_thing [.int 9, .int 0, .int 2] S = .ok .non S := check_ok (c := 9) (r := 0) (y := 2) (by decide) (by decide) (by decide) S
  simp -implicitDefEqProofs only [M_falling, e_runD, f_falling]
  simp -implicitDefEqProofs [startD, c]
theorem init_no (n : Nat) (S : Store) : M_Stock___init__ [.obj n, .str "none"] S = .exn ⟨"BadRule"⟩ S := by
  have z := not_in_none S
  simp -implicitDefEqProofs only [M_Stock___init__, e_runD, f_Stock___init__]
  simp -implicitDefEqProofs [startD, z]
/-! ### the parts of a round -/
theorem flat_near {w : Int} {y : Nat} (hy : 1 ≤ y) : ∃ M m, maxI (evL w y) = some M ∧ minI (evL w y) = some m ∧ ¬ 1 < M - m := by
  have ne : evL w y ≠ [] := fun z => by have := ev_len w y; rw [z] at this; simp at this; omega
  obtain ⟨M, h1, h2⟩ := max_of (q := w / (y : Int) + 1) ne fun e he => by rcases ev_two hy e he with h | h <;> omega
  obtain ⟨m, h3, h4⟩ := min_of (q := w / (y : Int)) ne fun e he => by rcases ev_two hy e he with h | h <;> omega
  exact ⟨M, m, h1, h3, by omega⟩
section
variable {c r : Int} {y : Nat} {S : Store} {x0 x1 x4 x7 x8 x9 x10 : Option D} (h0 : 0 ≤ r) (hrc : r ≤ c) (hc : c < 2 ^ 40) (hy : 1 ≤ y) (hy2 : y ≤ 6)
include h0 hrc hc hy hy2
theorem nearC_ok : nearC [x0, x1, some (.int c), some (.int (y : Int)), x4, some (.int r), some (.tup ((evL (c - r) y).map D.int)), x7, x8, x9, x10] S = .ok (.obj S.length) (S ++ [.lst []]) := by
  have t : lcD grdT (gN 9) (dNotT (dB (dCall 2 M_near (daCons (dCall 3 M_mean_wear (daCons (dVar 2) (daCons (dVar 5) (daCons (dVar 3) daNil)))) (daCons (dVar 9) daNil))))) (dVar 9) S.length [x0, x1, some (.int c), some (.int (y : Int)), x4, some (.int r), some (.tup ((evL (c - r) y).map D.int)), x7, x8, none, x10] ((evL (c - r) y).map D.int) (S ++ [.lst []]) = .ok () (S ++ [.lst []]) := by
    refine lc_none rfl _ fun d hd => ?_
    obtain ⟨k, hk, rfl⟩ := List.mem_map.mp hd
    have mw := mean_ok h0 hrc hc hy (show y ≤ 100 by omega) (S ++ [.lst []])
    have nr := near_ok (w := c - r) (y := y) hy (by omega) (by omega) (by omega) (ev_two hy k hk) (S ++ [.lst []])
    refine ⟨[x0, x1, some (.int c), some (.int (y : Int)), x4, some (.int r), some (.tup ((evL (c - r) y).map D.int)), x7, x8, some (.int k), x10], rfl, ?_⟩
    generalize pt (Rat.divInt (c - r) (y : Int)) = q at mw nr
    simp -implicitDefEqProofs [mw, nr]
  generalize (evL (c - r) y).map D.int = F at *
  unfold nearC
  simp -implicitDefEqProofs [t]
end
theorem tame_at : ∀ (l : List Int) (i : Nat), Tame l → i + 1 < l.length → ∃ a b, l[i]? = some a ∧ l[i + 1]? = some b ∧ b ≤ a + 1
  | [], i, _, h => by simp at h
  | [_], i, _, h => by simp at h
  | a :: b :: t, 0, T, _ => ⟨a, b, rfl, rfl, T.1⟩
  | a :: b :: t, i + 1, T, h => tame_at (b :: t) i T.2 (by simpa using h)
theorem tameC_ok {l : List Int} {R : Nat} {d0 : D} {ds : List D} {S : Store} {x0 x1 x2 x3 x4 x5 x6 x8 x9 x10 : Option D} (T : Tame l) (h : lstAt S R = some (d0 :: .tup (l.map D.int) :: ds)) (hl : l.length < 1000) :
    tameC [x0, x1, x2, x3, x4, x5, x6, some (.obj R), x8, x9, x10] S = .ok (.obj S.length) (S ++ [.lst []]) := by
  have hk : lstAt (S ++ [.lst []]) R = some (d0 :: .tup (l.map D.int) :: ds) := lstAt_keep _ _ h
  have t : lcD grdT (gN 10) (dB (dOp gtD (dOp ixD (dOp ixD (dVar 7) (dC (.int 1))) (dVar 10)) (dOp addD (dOp ixD (dOp ixD (dVar 7) (dC (.int 1))) (dOp subD (dVar 10) (dC (.int 1)))) (dC (.int 1))))) (dVar 10) S.length [x0, x1, x2, x3, x4, x5, x6, some (.obj R), x8, x9, none] (rngD 1 1 (l.length - 1)) (S ++ [.lst []]) = .ok () (S ++ [.lst []]) := by
    refine lc_none rfl _ fun d hd => ?_
    unfold rngD at hd
    obtain ⟨i, hi, rfl⟩ := List.mem_map.mp hd
    have hi2 := List.mem_range.mp hi
    obtain ⟨a, b, ha, hb, le⟩ := tame_at l i T (by omega)
    have e1 : (1 : Int) + (i : Int) * 1 = ((i + 1 : Nat) : Int) := by omega
    have e2 : ((i + 1 : Nat) : Int) - 1 = (i : Int) := by omega
    have a1 : atI (l.map D.int) ((i + 1 : Nat) : Int) = some (.int b) := by rw [DL.atI_nat, List.getElem?_map, hb]; rfl
    have a2 : atI (l.map D.int) (i : Int) = some (.int a) := by rw [DL.atI_nat, List.getElem?_map, ha]; rfl
    have n1 : ¬ a + 1 < b := by omega
    have q1 : atI (d0 :: .tup (l.map D.int) :: ds) (1 : Int) = some (.tup (l.map D.int)) := DL.atI_nat _ 1
    refine ⟨[x0, x1, x2, x3, x4, x5, x6, some (.obj R), x8, x9, some (.int ((i + 1 : Nat) : Int))], by rw [e1]; rfl, ?_⟩
    generalize l.map D.int = L at *
    generalize hz : ((i + 1 : Nat) : Int) = z at *
    simp -implicitDefEqProofs [hk, q1, a1, e2, a2, n1]
  have ll : (l.map D.int).length = l.length := List.length_map ..
  have q1 : atI (d0 :: .tup (l.map D.int) :: ds) (1 : Int) = some (.tup (l.map D.int)) := DL.atI_nat _ 1
  have hr : -1000000000000 ≤ (l.length : Int) ∧ (l.length : Int) ≤ 1000000000000 := by omega
  have tn : ((l.length : Int) - 1).toNat = l.length - 1 := by omega
  generalize l.map D.int = L at *
  unfold tameC
  simp -implicitDefEqProofs [h, q1, ll, hr, tn, t]
theorem rowsL_ok {c r : Int} {R : Nat} {fl : List Int} {wss : List (List Int)} {S : Store} {x0 x1 x3 x4 x8 x9 x10 : Option D} (h : lstAt S R = some (wss.map fun ws => D.tup (ws.map D.int))) (hw : ∀ ws ∈ fl :: wss, Wear (c - r) ws ∧ ws.length < 1000) (hl : wss.length < 1000) :
    ∃ v8 T, rowsL [x0, x1, some (.int c), x3, x4, some (.int r), some (.tup (fl.map D.int)), some (.obj R), x8, x9, x10] S = .nx [x0, x1, some (.int c), x3, x4, some (.int r), some (.tup (fl.map D.int)), some (.obj R), v8, x9, x10] (S ++ T) := by
  have ad := addD_obj (n := S.length) (k := R) (S := S ++ [.lst [.tup (fl.map D.int)]]) (xs := [.tup (fl.map D.int)]) (ys := wss.map fun ws => D.tup (ws.map D.int)) (by simp) (lstAt_keep _ _ h) (by simp; omega)
  obtain ⟨v8, T, z⟩ := rows_loop (n := S.length + 1) (all := (fl :: wss).map fun ws => D.tup (ws.map D.int)) (x0 := x0) (x1 := x1) (x3 := x3) (x4 := x4) (x6 := some (.tup (fl.map D.int))) (x7 := some (.obj R)) (x9 := x9) (x10 := x10) (fl :: wss) (S ++ [.lst [.tup (fl.map D.int)], .lst ((fl :: wss).map fun ws => D.tup (ws.map D.int))]) x8 (by unfold lstAt; rw [List.getElem?_append_right (by omega), show S.length + 1 - S.length = 1 by omega]; rfl) hw
  refine ⟨v8, [.lst [.tup (fl.map D.int)], .lst ((fl :: wss).map fun ws => D.tup (ws.map D.int))] ++ T, ?_⟩
  rw [← List.append_assoc, ← z]
  unfold rowsL
  rw [List.map_cons]
  generalize fl.map D.int = F at *
  generalize (wss.map fun ws => D.tup (ws.map D.int)) = W at *
  simp at ad
  simp -implicitDefEqProofs [ad]
end Pr
set_option Elab.async false
set_option linter.all false
set_option maxRecDepth 100000
set_option maxHeartbeats 4000000
namespace Pr
open PySem PySem.Spec PyProof.Rows L2 DL
theorem sw_len (r m : Int) : ∀ (n : Nat) (l : Int), (swL r m n l).length = n
  | 0, l => rfl
  | n + 1, l => by
    rw [swL]
    split
    · rw [ev_len]
    · rw [List.length_cons, sw_len r m n]
theorem body_ok {S : Store} {n : Nat} (hd : DiceAt S n) (o0 o2 o3 o4 o5 o6 o7 o8 o9 o10 : Option D) : ∃ ρ' S', ρ'.length = 11 ∧ lawB [o0, some (.obj n), o2, o3, o4, o5, o6, o7, o8, o9, o10] S = .nx ρ' S' ∧ Kp n S S' ∧ DiceAt S' n := by
  obtain ⟨S1, e1, k1, d1⟩ := law_stock_ok hd
  obtain ⟨S2, e2, k2, d2⟩ := law_asked_ok d1
  obtain ⟨v1, S3, b1, e3, k3, d3⟩ := roll d2 (show (0 : Int) < 400 by decide) (by decide)
  obtain ⟨v2, S4, b2, e4, k4, d4⟩ := roll d3 (show (0 : Int) < 6 by decide) (by decide)
  obtain ⟨v3, S5, b3, e5, k5, d5⟩ := roll d4 (show (0 : Int) < 8 by decide) (by decide)
  obtain ⟨v4, S6, b4, e6, k6, d6⟩ := roll d5 (show (0 : Int) < 20 by decide) (by decide)
  have K6 : Kp n S S6 := ((((k1.trans k2).trans k3).trans k4).trans k5).trans k6
  obtain ⟨c, hc⟩ : ∃ c : Int, 20 + (v1 : Int) = c := ⟨_, rfl⟩
  obtain ⟨y, hy⟩ : ∃ y : Nat, 1 + (v2 : Int) = (y : Int) := ⟨1 + v2, by omega⟩
  obtain ⟨m, hm⟩ : ∃ m : Int, 1 + (v3 : Int) = m := ⟨_, rfl⟩
  obtain ⟨r, hr⟩ : ∃ r : Int, (v4 : Int) = r := ⟨_, rfl⟩
  rw [hr] at e6
  have h0 : 0 ≤ r := by omega
  have hrc : r ≤ c := by omega
  have hc2 : c < 2 ^ 40 := by omega
  have y1 : 1 ≤ y := by omega
  have y6 : y ≤ 6 := by omega
  have m0 : 0 < m := by omega
  have m9 : m ≤ 9 := by omega
  have w0 : 0 ≤ c - r := by omega
  have ev := even_ok h0 hrc hc2 y1 (show y ≤ 100 by omega) S6
  obtain ⟨S7, hS7⟩ : ∃ S7, S6 ++ [DO.lst ((evL (c - r) y).map D.int)] = S7 := ⟨_, rfl⟩
  rw [hS7] at ev
  obtain ⟨T8, fa⟩ := falling_ok (S := S7) h0 m0 m9 hrc hc2 y1 (show y ≤ 100 by omega)
  obtain ⟨S8, hS8⟩ : ∃ S8, S7 ++ T8 = S8 := ⟨_, rfl⟩
  rw [hS8] at fa
  obtain ⟨T9, sw⟩ := switched_ok (S := S8) h0 m0 m9 (show y ≤ 100 by omega) hrc hc2 y1
  obtain ⟨S9, hS9⟩ : ∃ S9, S8 ++ T9 = S9 := ⟨_, rfl⟩
  rw [hS9] at sw
  obtain ⟨T10, dg⟩ := digits_ok (S := S9) h0 hrc hc2 y1 y6
  obtain ⟨S10, hS10⟩ : ∃ S10, S9 ++ T10 = S10 := ⟨_, rfl⟩
  rw [hS10] at dg
  obtain ⟨T11, us⟩ := use_ok (n := S10.length) (S := S10 ++ [.lst [.int 5, .int 5, .int 5]]) h0 hrc hc2 (by simp)
  obtain ⟨S11, hS11⟩ : ∃ S11, S10 ++ [DO.lst [D.int 5, D.int 5, D.int 5]] ++ T11 = S11 := ⟨_, rfl⟩
  rw [hS11] at us
  obtain ⟨S12, hS12⟩ : ∃ S12, S11 ++ [DO.lst ([fallL r m y c, swL r m y c, dgL (c - r) (dgT y) y 0 y, useL (c - r)].map fun ws => D.tup (ws.map D.int))] = S12 := ⟨_, rfl⟩
  have hR : lstAt S12 S11.length = some ([fallL r m y c, swL r m y c, dgL (c - r) (dgT y) y 0 y, useL (c - r)].map fun ws => D.tup (ws.map D.int)) := by rw [← hS12]; simp
  have K12 : Kp n S S12 := by
    rw [← hS12, ← hS11, ← hS10, ← hS9, ← hS8, ← hS7]
    exact (((((((K6.trans Kp.app).trans Kp.app).trans Kp.app).trans Kp.app).trans Kp.app).trans Kp.app).trans Kp.app)
  have d12 : DiceAt S12 n := by
    rw [← hS12, ← hS11, ← hS10, ← hS9, ← hS8, ← hS7]
    exact d6.app.app.app.app.app.app.app
  have lens : ∀ ws ∈ [evL (c - r) y, fallL r m y c, swL r m y c, dgL (c - r) (dgT y) y 0 y, useL (c - r)], Wear (c - r) ws ∧ ws.length < 1000 := by
    intro ws hws
    simp at hws
    rcases hws with rfl | rfl | rfl | rfl | rfl
    · exact ⟨ev_wear w0 y1, by rw [ev_len]; omega⟩
    · exact ⟨fall_wear hrc y1, by rw [fall_len]; omega⟩
    · exact ⟨sw_wear h0 (by omega) hrc y1, by rw [sw_len]; omega⟩
    · exact ⟨dg_wear w0 y1 y6, by rw [dg_len]; omega⟩
    · exact ⟨use_wear w0, by simp [useL]⟩
  obtain ⟨v8, T13, ro⟩ := rowsL_ok (x0 := o0) (x1 := some (.obj n)) (x3 := some (.int (y : Int))) (x4 := some (.tup [.int m, .int 10])) (x8 := o8) (x9 := o9) (x10 := o10) hR lens (by simp)
  obtain ⟨S13, hS13⟩ : ∃ S13, S12 ++ T13 = S13 := ⟨_, rfl⟩
  rw [hS13] at ro
  have hR3 : lstAt S13 S11.length = some ([fallL r m y c, swL r m y c, dgL (c - r) (dgT y) y 0 y, useL (c - r)].map fun ws => D.tup (ws.map D.int)) := by rw [← hS13]; exact lstAt_keep _ _ hR
  obtain ⟨M, mm, x1, x2, x3⟩ := flat_near (w := c - r) (y := y) y1
  have i1 : intsOf ((evL (c - r) y).map D.int) = some (evL (c - r) y) := intsOf_map _
  have ne := nearC_ok (S := S13) (x0 := o0) (x1 := some (.obj n)) (x4 := some (.tup [.int m, .int 10])) (x7 := some (.obj S11.length)) (x8 := v8) (x9 := o9) (x10 := o10) h0 hrc hc2 y1 y6
  have nn1 := neD_nil (S := S13 ++ [.lst [], .lst []]) (n := S13.length) (k := S13.length + 1) (by simp) (by simp)
  obtain ⟨S14, hS14⟩ : ∃ S14, S13 ++ [DO.lst [], DO.lst []] = S14 := ⟨_, rfl⟩
  have hR4 : lstAt S14 S11.length = some ([fallL r m y c, swL r m y c, dgL (c - r) (dgT y) y 0 y, useL (c - r)].map fun ws => D.tup (ws.map D.int)) := by rw [← hS14]; exact lstAt_keep _ _ hR3
  rw [hS14] at nn1
  have sl := slower_ok (w := c - r) w0 y1 y6 S14
  have ta := tameC_ok (S := S14) (x0 := o0) (x1 := some (.obj n)) (x2 := some (.int c)) (x3 := some (.int (y : Int))) (x4 := some (.tup [.int m, .int 10])) (x5 := some (.int r)) (x6 := some (.tup ((evL (c - r) y).map D.int))) (x8 := v8) (x9 := o9) (x10 := o10) (tame_sw h0 (show 0 ≤ m by omega) y c hrc) hR4 (by rw [sw_len]; omega)
  have nn2 := neD_nil (S := S14 ++ [.lst [], .lst []]) (n := S14.length) (k := S14.length + 1) (by simp) (by simp)
  obtain ⟨S15, hS15⟩ : ∃ S15, S14 ++ [DO.lst [], DO.lst []] = S15 := ⟨_, rfl⟩
  rw [hS15] at nn2
  obtain ⟨kw, wo⟩ := worn_ok (ev_wear w0 y1) (by rw [ev_len]; omega) S15
  obtain ⟨S16, hS16⟩ : ∃ S16, S15 ++ [DO.lst ((lftL c (evL (c - r) y)).map D.int)] = S16 := ⟨_, rfl⟩
  rw [hS16] at wo
  have so := sold_ok c (evL (c - r) y) S16
  have K16 : Kp n S S16 := by
    rw [← hS16, ← hS15, ← hS14, ← hS13]
    exact (((K12.trans Kp.app).trans Kp.app).trans Kp.app).trans Kp.app
  have d16 : DiceAt S16 n := by
    rw [← hS16, ← hS15, ← hS14, ← hS13]
    exact d12.app.app.app.app
  obtain ⟨S17, mo, k17, d17⟩ := law_more_ok d16 h0 hrc hc2 y1 (show y ≤ 100 by omega)
  have t1 := even_no S17
  have t2 := fall_no S17
  obtain ⟨T18, t3⟩ := hand_short S17
  obtain ⟨S18, hS18⟩ : ∃ S18, S17 ++ T18 = S18 := ⟨_, rfl⟩
  rw [hS18] at t3
  have t4 := init_no S18.length (S18 ++ [.ins "Stock" []])
  have K18 : Kp n S (S18 ++ [.ins "Stock" []]) := by rw [← hS18]; exact ((K16.trans k17).trans Kp.app).trans Kp.app
  have d18 : DiceAt (S18 ++ [.ins "Stock" []]) n := by rw [← hS18]; exact d17.app.app
  rw [List.map_cons, List.map_cons, List.map_cons, List.map_cons, List.map_nil] at hS12 hR3 hR4 hR
  generalize (evL (c - r) y).map D.int = EV at *
  generalize (fallL r m y c).map D.int = FA at *
  generalize (swL r m y c).map D.int = SW at *
  generalize (dgL (c - r) (dgT y) y 0 y).map D.int = DG at *
  generalize (useL (c - r)).map D.int = US at *
  have q2 : atI [D.tup FA, .tup SW, .tup DG, .tup US] 2 = some (.tup DG) := rfl
  refine ⟨[o0, some (.obj n), some (.int c), some (.int (y : Int)), some (.tup [.int m, .int 10]), some (.int r), some (.tup EV), some (.obj S11.length), v8, o9, o10], S18 ++ [.ins "Stock" []], rfl, ?_, K18, d18⟩
  have ok2 : (1 : Nat) = 1 := rfl
  unfold lawB
  simp -implicitDefEqProofs [e1, e2, e3, hc, e4, hy, e5, hm, e6, ev, fa, sw, dg, us, hS11]
  rw [hS12]
  simp -implicitDefEqProofs [ro, i1, x1, x2, x3, ne, hS14, nn1, hR4, q2, sl, ta, hS15, nn2, wo, so, neD_pair]
  simp -implicitDefEqProofs [mo, t1, told_rule, ne_rule, t2, t3, told_short, ne_short, t4]
theorem ok (ns : List Int) (d : D) (S : Store) (hs : ScriptAt ns d S) : ∃ S2, M_law [d] S = .ok (.bl true) S2 := by
  rw [M_law_eq]
  refine law_rounds (by decide) (by decide) (by decide) (fun ρ S n hN hd => ?_) hs
  match ρ, hN with
  | [o0, o1, o2, o3, o4, o5, o6, o7, o8, o9, o10], _ => exact body_ok hd o0 o2 o3 o4 o5 o6 o7 o8 o9 o10
end Pr
set_option maxRecDepth 100000 in
set_option maxHeartbeats 8000000 in
theorem PySem.Challenge.cw_wagehall_k11_stock_and_wear_holds : PySem.Challenge.rw_wagehall_k11_stock_and_wear.Holds := by
  exact holds_it fun ns d S _ _ hs => Pr.ok ns d S hs
