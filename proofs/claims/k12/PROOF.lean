import PyProof.Rows.All
import Wide.All
import OpenK.AllK
import Wide.FinOn
import HandS.ForMost
import HandS.ForExc
import HandS.TryMany
import HandS.ExcInit
import HandS.ExcField
import HandS.IsInst
import HandS.Gcd
import HandS.WideBits
import HandS.Wide
import HandS.Flow
import HandS.TupAny
import HandS.Zip
import HandS.Rev
import HandS.Small
import HandS.Walk
import HandS.Lambda
import HandS.EndTab
import HandS.Style
import HandS.TupMul
import HandS.HeadWalk
import HandS.HeadHook4
import KE.KLam
import PyProof.ReprRoads
import HandS.Codes
import HandS.Head3
import PyProof.ReprLen
import PySem.Challenge.RW_steerpapers_k12_tables_added_and_multipl
set_option Elab.async false
set_option linter.all false
set_option maxRecDepth 100000
/-! Rf1: values as trees, the evaluator's state, the ghost, what is held of the heap -/
namespace Rf
open PySem PySem.Spec L2
/-- a value as a tree; scr: a list that is only read; cel: a mutable dict by its number; fn: a def of the module; lam: a lambda -/
inductive D where
  | non | bl (b : Bool) | int (i : Int) | str (x : Str) | tup (xs : List D) | lst (xs : List D) | scr (xs : List D) | cel (n : Nat) | fn (x : Str) | lam (x : Str)
  deriving Inhabited
/-- what a slot holds: nothing; a value; a list that this frame alone has; one that a loop walks -/
inductive Bd where
  | un | val (d : D) | own (xs : List D) | lent (xs : List D)
  deriving Inhabited
/-- a lambda's function object: its qualified name, parameters, body, names, cells -/
structure LmR where
  q : Str
  params : Arguments
  body : Expr
  scope : Scope
  clos : List (Str × Addr)
/-- what stays as it is: the tables of code objects, the lambdas by name, the captured cells by slot -/
structure Tbs where
  ts : List (Addr × Str)
  lt : Str → Option LmR
  ce : Nat → Option Addr
abbrev Sto := List (List (Str × D))
structure Sx where
  env : List Bd
  S : Sto
  L : List (Option D) := []
structure Exn where
  cls : Str
  fs : List (Str × D)
/-- a result: a value, or a new list -/
inductive R where
  | val (d : D) | fresh (xs : List D)
def R.d : R → D
  | .val d => d
  | .fresh xs => .lst xs
abbrev Ev (α : Type) := Sx → Option (Except Exn α × Sx)
def Ev.ok {α : Type} (a : α) : Ev α := fun s => some (.ok a, s)
def Ev.no {α : Type} : Ev α := fun _ => none
def Ev.bind {α β : Type} (m : Ev α) (f : α → Ev β) : Ev β := fun s => match m s with
  | none => none
  | some (.error x, s') => some (.error x, s')
  | some (.ok a, s') => f a s'
def Ev.of {α : Type} (o : Option α) : Ev α := fun s => match o with
  | none => none
  | some a => some (.ok a, s)
/-- a list that a loop walks: its slot, its address, its items -/
structure Lt where
  i : Nat
  a : Addr
  xs : List D
  vs : List V
/-- the ghost: the written part and the module's names; F: what is frozen; mu: the cells' addresses; om: the owned lists' addresses by slot; B: the heap as the frame met it; lam: the lists that loops walk; tabs: the tables of code objects -/
structure GS where
  K : PySem.W.Frag
  mg : Str → Option Value
  F : Hp
  mu : List Addr
  om : Nat → Addr
  B : Hp
  lam : List Lt
  tabs : Tbs
/-- a lambda's function object at f -/
def FnO (f : Addr) (r : LmR) (pm : Value) (c : Addr) (ct : Value) : HO := .ext fun h => h.get? f = some (PySem.W.kla_obj "<lambda>" r.q r.params r.body r.scope r.clos pm c ct)
mutual
inductive Rp (g : GS) : D → V → Prop
  | non : Rp g .non .non
  | bl (b : Bool) : Rp g (.bl b) (.bl b)
  | int (i : Int) : Rp g (.int i) (.int i)
  | str (x : Str) : Rp g (.str x) (.str x)
  | tup {ds : List D} {vs : List V} {a : Addr} : SqT g.K g.F a vs → RpL g ds vs → Rp g (.tup ds) (.ref a)
  | lst {ds : List D} {vs : List V} {a : Addr} : g.F a = some (.lst vs) → RpL g ds vs → Rp g (.lst ds) (.ref a)
  | scr {ds : List D} {vs : List V} {a : Addr} : SqL g.K g.F a vs → RpL g ds vs → Rp g (.scr ds) (.ref a)
  | cel {n : Nat} {a : Addr} : g.mu[n]? = some a → Rp g (.cel n) (.ref a)
  | fn {x : Str} {f : Addr} : g.mg x = some (.ref f) → PySem.W.keepIn g.K (.ref f) = true → Rp g (.fn x) (.ref f)
  | lam {x : Str} {f c : Addr} {r : LmR} {pm ct : Value} : g.tabs.lt x = some r → g.F f = some (FnO f r pm c ct) → g.F c = some (LamX.CodeO c r.q) → Rp g (.lam x) (.ref f)
inductive RpL (g : GS) : List D → List V → Prop
  | nil : RpL g [] []
  | cons {d : D} {ds : List D} {v : V} {vs : List V} : Rp g d v → RpL g ds vs → RpL g (d :: ds) (v :: vs)
end
/-- the ghost grows -/
structure Gr (g g' : GS) : Prop where
  K : g'.K = g.K
  mg : g'.mg = g.mg
  F : ∀ b o, g.F b = some o → g'.F b = some o
  mu : ∀ (n : Nat) a, g.mu[n]? = some a → g'.mu[n]? = some a
  tabs : g'.tabs = g.tabs
theorem Gr.refl (g : GS) : Gr g g := ⟨rfl, rfl, fun _ _ h => h, fun _ _ h => h, rfl⟩
theorem Gr.trans {g g1 g2 : GS} (a : Gr g g1) (b : Gr g1 g2) : Gr g g2 := ⟨b.K.trans a.K, b.mg.trans a.mg, fun c o h => b.F c o (a.F c o h), fun n c h => b.mu n c (a.mu n c h), b.tabs.trans a.tabs⟩
theorem sqT_mono {K : PySem.W.Frag} {F F' : Hp} (h : ∀ b o, F b = some o → F' b = some o) {a : Addr} {vs : List V} (q : SqT K F a vs) : SqT K F' a vs := by
  rcases q with (q | ⟨o, q⟩) | q
  · exact .inl (.inl (h _ _ q))
  · exact .inl (.inr ⟨o, h _ _ q⟩)
  · exact .inr q
theorem sqL_mono {K : PySem.W.Frag} {F F' : Hp} (h : ∀ b o, F b = some o → F' b = some o) {a : Addr} {vs : List V} (q : SqL K F a vs) : SqL K F' a vs := by
  rcases q with (q | ⟨o, q⟩) | q
  · exact .inl (.inl (h _ _ q))
  · exact .inl (.inr ⟨o, h _ _ q⟩)
  · exact .inr q
mutual
theorem Rp.mono {g g' : GS} (h : Gr g g') : ∀ {d : D} {v : V}, Rp g d v → Rp g' d v
  | _, _, .non => .non
  | _, _, .bl b => .bl b
  | _, _, .int i => .int i
  | _, _, .str x => .str x
  | _, _, .tup q r => .tup (by rw [h.K]; exact sqT_mono h.F q) (RpL.mono h r)
  | _, _, .lst q r => .lst (h.F _ _ q) (RpL.mono h r)
  | _, _, .scr q r => .scr (by rw [h.K]; exact sqL_mono h.F q) (RpL.mono h r)
  | _, _, .cel q => .cel (h.mu _ _ q)
  | _, _, .fn q k => .fn (by rw [h.mg]; exact q) (by rw [h.K]; exact k)
  | _, _, .lam q a b => .lam (by rw [h.tabs]; exact q) (h.F _ _ a) (h.F _ _ b)
theorem RpL.mono {g g' : GS} (h : Gr g g') : ∀ {ds : List D} {vs : List V}, RpL g ds vs → RpL g' ds vs
  | _, _, .nil => .nil
  | _, _, .cons a b => .cons (Rp.mono h a) (RpL.mono h b)
end
theorem RpL.length {g : GS} : ∀ {ds : List D} {vs : List V}, RpL g ds vs → ds.length = vs.length
  | _, _, .nil => rfl
  | _, _, .cons _ b => by simp [RpL.length b]
theorem RpL.app {g : GS} : ∀ {ds es : List D} {vs ws : List V}, RpL g ds vs → RpL g es ws → RpL g (ds ++ es) (vs ++ ws)
  | _, _, _, _, .nil, h => h
  | _, _, _, _, .cons a b, h => .cons a (b.app h)
theorem RpL.get {g : GS} : ∀ {ds : List D} {vs : List V} {i : Nat} {d : D}, RpL g ds vs → ds[i]? = some d → ∃ v, vs[i]? = some v ∧ Rp g d v
  | _, _, _, _, .nil, e => by simp at e
  | _, _, 0, _, .cons a _, e => by simp at e; subst e; exact ⟨_, rfl, a⟩
  | _, _, i + 1, _, .cons _ b, e => by
    obtain ⟨v, h1, h2⟩ := RpL.get b (show _ = _ by simpa using e)
    exact ⟨v, by simpa using h1, h2⟩
theorem RpL.get' {g : GS} : ∀ {ds : List D} {vs : List V} {i : Nat} {v : V}, RpL g ds vs → vs[i]? = some v → ∃ d, ds[i]? = some d ∧ Rp g d v
  | _, _, _, _, .nil, e => by simp at e
  | _, _, 0, _, .cons a _, e => by simp at e; subst e; exact ⟨_, rfl, a⟩
  | _, _, i + 1, _, .cons _ b, e => by
    obtain ⟨v, h1, h2⟩ := RpL.get' b (show _ = _ by simpa using e)
    exact ⟨v, by simpa using h1, h2⟩
theorem RpL.drop {g : GS} : ∀ {ds : List D} {vs : List V} (n : Nat), RpL g ds vs → RpL g (ds.drop n) (vs.drop n)
  | _, _, 0, h => h
  | _, _, _ + 1, .nil => .nil
  | _, _, n + 1, .cons _ b => b.drop n
theorem RpL.take {g : GS} : ∀ {ds : List D} {vs : List V} (n : Nat), RpL g ds vs → RpL g (ds.take n) (vs.take n)
  | _, _, 0, h => by simpa using .nil
  | _, _, _ + 1, .nil => .nil
  | _, _, n + 1, .cons a b => .cons a (b.take n)
theorem RpL.set {g : GS} : ∀ {ds : List D} {vs : List V} (n : Nat) {d : D} {v : V}, RpL g ds vs → Rp g d v → RpL g (ds.set n d) (vs.set n v)
  | _, _, _, _, _, .nil, _ => .nil
  | _, _, 0, _, _, .cons _ b, r => .cons r b
  | _, _, n + 1, _, _, .cons a b, r => .cons a (b.set n r)
theorem RpL.erase {g : GS} : ∀ {ds : List D} {vs : List V} (n : Nat), RpL g ds vs → RpL g (ds.eraseIdx n) (vs.eraseIdx n)
  | _, _, _, .nil => .nil
  | _, _, 0, .cons _ b => b
  | _, _, n + 1, .cons a b => .cons a (b.erase n)
theorem RpL.rev {g : GS} : ∀ {ds : List D} {vs : List V}, RpL g ds vs → RpL g ds.reverse vs.reverse
  | _, _, .nil => .nil
  | _, _, .cons a b => by
    rw [List.reverse_cons, List.reverse_cons]
    exact b.rev.app (.cons a .nil)
theorem RpL.rep {g : GS} {ds : List D} {vs : List V} (h : RpL g ds vs) : ∀ k : Nat, RpL g (List.replicate k ds).flatten (List.replicate k vs).flatten
  | 0 => .nil
  | k + 1 => by
    rw [List.replicate_succ, List.replicate_succ, List.flatten_cons, List.flatten_cons]
    exact h.app (h.rep k)
/-- a dict of texts -/
inductive KvR (g : GS) : List (Str × D) → List (Key × V) → Prop
  | nil : KvR g [] []
  | cons {x : Str} {d : D} {v : V} {kvs : List (Str × D)} {kvs' : List (Key × V)} : Rp g d v → KvR g kvs kvs' → KvR g ((x, d) :: kvs) ((Sum.inr x, v) :: kvs')
theorem KvR.mono {g g' : GS} (h : Gr g g') : ∀ {a : List (Str × D)} {b : List (Key × V)}, KvR g a b → KvR g' a b
  | _, _, .nil => .nil
  | _, _, .cons a b => .cons (a.mono h) (b.mono h)
/-- the tables: each code object that they tell is held -/
def TabsG (T : List (Addr × Str)) (F H : Hp) : Prop := ∀ p ∈ T, F p.1 = none ∧ ∃ ps : Array Value, H p.1 = some (.tbl ps) ∧ TriplesOk ps.toList ∧ ∀ (pos : Pos) (cv : Value), codeAmong pos ps.toList = some cv → ∃ c, cv = .ref c ∧ F c = some (LamX.CodeO c p.2)
theorem TabsG.ext {T : List (Addr × Str)} {F F' H H' : Hp} (t : TabsG T F H) (f : ∀ b o, F b = some o → F' b = some o) (n : ∀ b ps, H b = some (.tbl ps) → F b = none → F' b = none) (e : ∀ b ps, H b = some (.tbl ps) → H' b = some (.tbl ps)) : TabsG T F' H' := fun p hp => by
  obtain ⟨h0, ps, h1, h2, h3⟩ := t p hp
  refine ⟨n _ ps h1 h0, ps, e _ _ h1, h2, fun pos cv hc => ?_⟩
  obtain ⟨c, e1, e2⟩ := h3 pos cv hc
  exact ⟨c, e1, f _ _ e2⟩
/-- a captured name's cell holds d -/
def CellV (base : Heap) (g : GS) (i : Nat) (d : D) : Prop := ∃ (c : Addr) (u : Value) (v : V), g.tabs.ce i = some c ∧ base.IsCell c (some u) ∧ RelV v u ∧ Rp g d v
theorem CellV.mono {base : Heap} {g g' : GS} (h : Gr g g') {i : Nat} {d : D} (c : CellV base g i d) : CellV base g' i d := by
  obtain ⟨a, u, v, h1, h2, h3, h4⟩ := c
  exact ⟨a, u, v, by rw [h.tabs]; exact h1, h2, h3, h4.mono h⟩
/-- the captured values -/
def LmOk (base : Heap) (g : GS) (L : List (Option D)) : Prop := ∀ (i : Nat) (d : D), L[i]? = some (some d) → CellV base g i d
theorem LmOk.mono {base : Heap} {g g' : GS} (h : Gr g g') {L : List (Option D)} (c : LmOk base g L) : LmOk base g' L := fun i d e => (c i d e).mono h
/-- a world: what is held of the heap H -/
structure Wd (g : GS) (H : Hp) (S : Sto) : Prop where
  sub : ∀ b o, g.F b = some o → H b = some o
  nof : ∀ a ∈ g.mu, g.F a = none
  nd : g.mu.Nodup
  len : S.length = g.mu.length
  cel : ∀ (n : Nat) a kvs, g.mu[n]? = some a → S[n]? = some kvs → ∃ kvs', H a = some (.dK kvs') ∧ KvR g kvs kvs'
  dom : ∀ b, g.B b ≠ none → H b ≠ none
  tabs : TabsG g.tabs.ts g.F H
def Own (env : List Bd) (i : Nat) : Prop := ∃ xs, env[i]? = some (.own xs) ∨ env[i]? = some (.lent xs)
/-- a slot's binding -/
def BdR (g : GS) (σ : St) (H : Hp) (i : Nat) : Bd → Prop
  | .un => True
  | .val d => ∃ v, σ[i]? = some (some v) ∧ Rp g d v
  | .own xs | .lent xs => ∃ vs, σ[i]? = some (some (.ref (g.om i))) ∧ H (g.om i) = some (.lst vs) ∧ RpL g xs vs ∧ g.F (g.om i) = none ∧ g.om i ∉ g.mu ∧ g.B (g.om i) = none
structure Rel (T : Tbs) (X : Cx) (st : Sx) (g : GS) (σ : St) (H : Hp) : Prop where
  tb : g.tabs = T
  K : g.K = X.K
  mg : g.mg = X.mg
  lm : LmOk X.base g st.L
  wd : Wd g H st.S
  len : st.env.length = σ.length
  bd : ∀ (i : Nat) b, st.env[i]? = some b → BdR g σ H i b
  inj : ∀ i j, Own st.env i → Own st.env j → g.om i = g.om j → i = j
  lam : ∀ p ∈ g.lam, st.env[p.i]? = some (.lent p.xs) ∧ σ[p.i]? = some (some (.ref p.a)) ∧ H p.a = some (.lst p.vs)
/-- from one state to a later one -/
structure Step (g : GS) (H : Hp) (g' : GS) (H' : Hp) : Prop where
  gr : Gr g g'
  B : g'.B = g.B
  lam : g'.lam = g.lam
  tabs : g'.tabs = g.tabs
  nF : ∀ b o, g'.F b = some o → g.F b = some o ∨ g.B b = none
  nmu : ∀ a ∈ g'.mu, a ∈ g.mu ∨ g.B a = none
  kB : ∀ b o, H b = some o → g.B b ≠ none → b ∉ g.mu → (∀ ps, o ≠ .tbl ps) → H' b = some o
  kM : ∀ b, H b ≠ none → H' b ≠ none
theorem Step.refl (g : GS) (H : Hp) : Step g H g H := ⟨.refl g, rfl, rfl, rfl, fun _ _ h => .inl h, fun _ h => .inl h, fun _ _ h _ _ _ => h, fun _ h => h⟩
theorem Step.trans {g g1 g2 : GS} {H H1 H2 : Hp} (a : Step g H g1 H1) (b : Step g1 H1 g2 H2) : Step g H g2 H2 := by
  refine ⟨a.gr.trans b.gr, b.B.trans a.B, b.lam.trans a.lam, b.tabs.trans a.tabs, fun c o h => ?_, fun c h => ?_, fun c o h hb hm ht => ?_, fun c h => b.kM c (a.kM c h)⟩
  · rcases b.nF c o h with h | h
    · exact a.nF c o h
    · exact .inr (by rw [← a.B]; exact h)
  · rcases b.nmu c h with h | h
    · exact a.nmu c h
    · exact .inr (by rw [← a.B]; exact h)
  · refine b.kB c o (a.kB c o h hb hm ht) (by rw [a.B]; exact hb) (fun z => ?_) ht
    rcases a.nmu c z with z | z
    · exact hm z
    · exact hb z
/-- a result -/
def RpR (g : GS) (H : Hp) (env : List Bd) : R → V → Prop
  | .val d, v => Rp g d v
  | .fresh xs, v => ∃ a vs, v = .ref a ∧ H a = some (.lst vs) ∧ RpL g xs vs ∧ g.F a = none ∧ a ∉ g.mu ∧ g.B a = none ∧ ∀ i, Own env i → g.om i ≠ a
/-- an exception in flight -/
def RpX (g : GS) (H : Hp) (x : Exn) (cls : Value) (d : Option Addr) : Prop :=
  ∃ (C dd : Addr) (fs : List (Str × V)), g.mg x.cls = some (.ref C) ∧ cls = .ref C ∧ d = some dd ∧ H dd = some (.xd fs) ∧ ∀ f e, x.fs.lookup f = some e → ∃ v, fs.lookup f = some v ∧ Rp g e v
section
variable {T : Tbs} {X : Cx} {st : Sx} {g : GS} {σ : St} {H : Hp}
/-- a list of ours is frozen -/
def GS.frz (g : GS) (a : Addr) (vs : List V) : GS := { g with F := upd g.F a (.lst vs) }
theorem frz_step {a : Addr} {vs : List V} (hF : g.F a = none) (hB : g.B a = none) : Step g H (g.frz a vs) H := by
  refine ⟨⟨rfl, rfl, fun b o h => ?_, fun _ _ h => h, rfl⟩, rfl, rfl, rfl, fun b o h => ?_, fun _ h => .inl h, fun _ _ h _ _ _ => h, fun _ h => h⟩
  · show upd g.F a (.lst vs) b = some o
    rw [upd_ne (ne_of_none h hF)]
    exact h
  · have h : upd g.F a (.lst vs) b = some o := h
    by_cases e : b = a
    · exact .inr (by rw [e]; exact hB)
    · rw [upd_ne e] at h
      exact .inl h
theorem BdR.step {g' : GS} {H' : Hp} {i : Nat} {b : Bd} (h : BdR g σ H i b) (gr : Gr g g') (ho : Own [b] 0 → g'.om i = g.om i ∧ H' (g.om i) = H (g.om i) ∧ g'.F (g.om i) = none ∧ g.om i ∉ g'.mu ∧ g'.B (g.om i) = none) : BdR g' σ H' i b := by
  cases b with
  | un => trivial
  | val d =>
    obtain ⟨v, e, r⟩ := h
    exact ⟨v, e, r.mono gr⟩
  | own xs =>
    obtain ⟨vs, e, h1, h2, _⟩ := h
    obtain ⟨a1, a2, a3, a4, a5⟩ := ho ⟨xs, .inl rfl⟩
    exact ⟨vs, by rw [a1]; exact e, by rw [a1, a2]; exact h1, h2.mono gr, by rw [a1]; exact a3, by rw [a1]; exact a4, by rw [a1]; exact a5⟩
  | lent xs =>
    obtain ⟨vs, e, h1, h2, _⟩ := h
    obtain ⟨a1, a2, a3, a4, a5⟩ := ho ⟨xs, .inr rfl⟩
    exact ⟨vs, by rw [a1]; exact e, by rw [a1, a2]; exact h1, h2.mono gr, by rw [a1]; exact a3, by rw [a1]; exact a4, by rw [a1]; exact a5⟩
theorem own_one {env : List Bd} {i : Nat} {b : Bd} (e : env[i]? = some b) (h : Own [b] 0) : Own env i := by
  obtain ⟨xs, h | h⟩ := h
  · have : b = .own xs := by simpa using h
    exact ⟨xs, .inl (by rw [e, this])⟩
  · have : b = .lent xs := by simpa using h
    exact ⟨xs, .inr (by rw [e, this])⟩
/-- what an owned slot holds -/
theorem Rel.owns (r : Rel T X st g σ H) {i : Nat} (h : Own st.env i) : ∃ vs, H (g.om i) = some (.lst vs) ∧ g.F (g.om i) = none ∧ g.om i ∉ g.mu ∧ g.B (g.om i) = none := by
  obtain ⟨xs, h | h⟩ := h
  · obtain ⟨vs, _, a, _, b, c, d⟩ := r.bd i _ h
    exact ⟨vs, a, b, c, d⟩
  · obtain ⟨vs, _, a, _, b, c, d⟩ := r.bd i _ h
    exact ⟨vs, a, b, c, d⟩
theorem Wd.step_F {S : Sto} {a : Addr} {vs : List V} (w : Wd g H S) (hH : H a = some (.lst vs)) (hF : g.F a = none) (hm : a ∉ g.mu) (hB : g.B a = none) : Wd (g.frz a vs) H S := by
  have gr : Gr g (g.frz a vs) := (frz_step (H := H) (vs := vs) hF hB).gr
  refine ⟨fun b o h => ?_, fun b hb => ?_, w.nd, w.len, fun n b kvs h1 h2 => ?_, w.dom, w.tabs.ext gr.F (fun b ps h h0 => by
    show upd g.F a (.lst vs) b = none
    rw [upd_ne fun z => by rw [z, hH] at h; cases h]
    exact h0) fun _ _ h => h⟩
  · have h : upd g.F a (.lst vs) b = some o := h
    by_cases e : b = a
    · subst e
      rw [upd_same] at h
      rw [hH, h]
    · rw [upd_ne e] at h
      exact w.sub b o h
  · show upd g.F a (.lst vs) b = none
    rw [upd_ne (fun e => hm (by rw [← e]; exact hb))]
    exact w.nof b hb
  · obtain ⟨k, e, q⟩ := w.cel n b kvs h1 h2
    exact ⟨k, e, q.mono gr⟩
/-- a new list that no slot owns is frozen -/
theorem Rel.frz (r : Rel T X st g σ H) {a : Addr} {vs : List V} (hH : H a = some (.lst vs)) (hF : g.F a = none) (hm : a ∉ g.mu) (hB : g.B a = none) (hn : ∀ i, Own st.env i → g.om i ≠ a) : Rel T X st (g.frz a vs) σ H := by
  have gr : Gr g (g.frz a vs) := (frz_step (H := H) (vs := vs) hF hB).gr
  refine ⟨r.tb, r.K, r.mg, r.lm.mono gr, r.wd.step_F hH hF hm hB, r.len, fun i b e => (r.bd i b e).step gr fun ho => ?_, r.inj, r.lam⟩
  have ow := own_one e ho
  obtain ⟨ws, _, h2, h3, h4⟩ := r.owns ow
  refine ⟨rfl, rfl, ?_, h3, h4⟩
  show upd g.F a (.lst vs) (g.om i) = none
  rw [upd_ne (hn i ow)]
  exact h2
/-- the list of a slot is frozen: from now on the slot holds a value -/
theorem Rel.frzOwn (r : Rel T X st g σ H) {i : Nat} {xs : List D} (e : st.env[i]? = some (.own xs)) :
    ∃ g', Step g H g' H ∧ Rel T X { st with env := st.env.set i (.val (.lst xs)) } g' σ H ∧ ∃ v, σ[i]? = some (some v) ∧ Rp g' (.lst xs) v := by
  obtain ⟨vs, e1, h1, h2, h3, h4, h5⟩ := r.bd i _ e
  have gr : Gr g (g.frz (g.om i) vs) := (frz_step (H := H) (vs := vs) h3 h5).gr
  have hi : i < st.env.length := (List.getElem?_eq_some_iff.mp e).1
  have ownI : Own st.env i := ⟨xs, .inl e⟩
  have rp : Rp (g.frz (g.om i) vs) (.lst xs) (.ref (g.om i)) := .lst (by show upd g.F (g.om i) (.lst vs) (g.om i) = _; rw [upd_same]) (h2.mono gr)
  have old : ∀ j, Own (st.env.set i (.val (.lst xs))) j → Own st.env j ∧ j ≠ i := fun j ⟨ys, hj⟩ => by
    by_cases ej : j = i
    · subst ej
      rw [List.getElem?_set_self hi] at hj
      rcases hj with hj | hj <;> cases hj
    · rw [List.getElem?_set_ne (Ne.symm ej)] at hj
      exact ⟨⟨ys, hj⟩, ej⟩
  refine ⟨g.frz (g.om i) vs, frz_step h3 h5, ⟨r.tb, r.K, r.mg, r.lm.mono gr, r.wd.step_F h1 h3 h4 h5, by simpa using r.len, fun j b ej => ?_, fun j k hj hk => r.inj j k (old j hj).1 (old k hk).1, fun p hp => ?_⟩, _, e1, rp⟩
  · by_cases hj : j = i
    · subst hj
      rw [List.getElem?_set_self hi] at ej
      cases ej
      exact ⟨_, e1, rp⟩
    · rw [List.getElem?_set_ne (Ne.symm hj)] at ej
      refine (r.bd j b ej).step gr fun ho => ?_
      have ow := own_one ej ho
      obtain ⟨ws, _, q2, q3, q4⟩ := r.owns ow
      refine ⟨rfl, rfl, ?_, q3, q4⟩
      show upd g.F (g.om i) (.lst vs) (g.om j) = none
      rw [upd_ne fun z => hj (r.inj j i ow ownI z)]
      exact q2
  · obtain ⟨a, b⟩ := r.lam p hp
    have hne : i ≠ p.i := fun z => by
      rw [← z, e] at a
      cases a
    refine ⟨?_, b⟩
    show (st.env.set i _)[p.i]? = _
    rw [List.getElem?_set_ne hne]
    exact a
end
end Rf
/-! Rf2: the texts' inner form, the evaluator -/
namespace Rf
open PySem PySem.Spec L2
/-- built-ins whose arguments are only looked at -/
inductive Bi where
  | len | abs | int | list | tuple | all | any | sum | repr | gcd | max2 | min2
  deriving DecidableEq
/-- expressions (rng, rng2, zip, enm, rvs: what a loop walks) -/
inductive I where
  | cst (d : D) | glb (x : Str) (d : D) | var (i : Nat)
  | bin (o : Operator) (a b : I) | neg (a : I) | nt (a : I) | and (a b : I) | or (a b : I)
  | cmp (o : CmpOp) (a b : I) | chn (o o' : CmpOp) (a b c : I) | ite (t a b : I)
  | call (f : Str) (as : List I) | callv (f : I) (as : List I) | callc (f : Str) (as : List I) (caps : List Nat) | callv0 (i : Nat) | lam (x : Str) | bi (b : Bi) (as : List I) | isi (a : I) (ts : List String) | bits (a : I)
  | app (i : Nat) (a : I) | pop (i : Nat) (a : I)
  | idx (a b : I) | key (o : I) (k : Str) | slc (a : I) (lo hi : Option I) | rev (a : I)
  | tup (as : List I) | lst (as : List I) | dic (ks : List Str) (as : List I)
  | lc (elt : I) (t : List Nat) (one : Bool) (it : I) (ifs : List I) (own : List Nat)
  | rng (a : I) | rng2 (a b : I) | zip (a b : I) | enm (a : I) | rvs (a : I)
  deriving Inhabited
/-- targets of an assignment: a slot; slot[e]; e["k"] -/
inductive Tt where
  | nm (i : Nat) | ix (i : Nat) (k : I) | ky (o : I) (k : Str)
/-- statements -/
inductive J where
  | ex (e : I) | set (t : Tt) (e : I) | setT (ts : List Tt) (e : I) | par (is : List Nat) (es : List I) | aug (i : Nat) (o : Operator) (e : I)
  | iff (t : I) (a b : List J) | for_ (t : List Nat) (one : Bool) (it : I) (body : List J) | whl (t : I) (body : List J)
  | ret (e : I) | retN | rse (c : Str) (as : List I) | try_ (body : List J) (hs : List (Str × Nat × List (Str ⊕ Str))) | pass | brk | cnt
  deriving Inhabited
inductive Fl where
  | nx | bk | ct | rt (r : R)
structure Df where
  ps : List Str
  N : Nat
  body : List J
/-- a lambda without parameters: how many slots its maker has, which ones it reads; its body -/
structure Lm where
  n : Nat
  fr : List Nat
  body : I
structure Prg where
  defs : List (Str × Df)
  lams : List (Str × Lm)
  excs : List (Str × List Str)
  free : List Str
  glbs : List (Str × D)
  bfn : List (Str × String)
  wf : Nat
  af : Nat
/-! ### values -/
def scalD : D → Bool
  | .non | .bl _ | .int _ | .str _ => true
  | _ => false
mutual
/-- as the library's data -/
def D.pd (S : Sto) : D → Option PyData
  | .non => some .none
  | .bl b => some (.bool b)
  | .int i => some (.int i)
  | .str x => some (.str x)
  | .tup xs => (D.pdL S xs).map .tuple
  | .lst xs => (D.pdL S xs).map .list
  | .cel n => if (S.getD n [("", .non)]).isEmpty = true then some (.dict []) else none
  | _ => none
def D.pdL (S : Sto) : List D → Option (List PyData)
  | [] => some []
  | d :: r => match D.pd S d, D.pdL S r with
    | some a, some b => some (a :: b)
    | _, _ => none
end
mutual
/-- no list within -/
def noLst : PyData → Bool
  | .list _ => false
  | .tuple xs => noLstL xs
  | _ => true
def noLstL : List PyData → Bool
  | [] => true
  | d :: r => noLst d && noLstL r
end
def line : Nat := 16777216
def truD (S : Sto) : D → Option Bool
  | .non => some false
  | .bl b => some b
  | .int i => some (i != 0)
  | .str x => if x.length ≤ line then some (x.length != 0) else none
  | .tup xs => some (!xs.isEmpty)
  | .lst xs => some (!xs.isEmpty)
  | _ => none
def ixD (n : Nat) (i : Int) : Option Nat := if 0 ≤ i then (if i < n then some i.toNat else none) else if -(n : Int) ≤ i then some (i + n).toNat else none
def intBits (i : Int) : Nat := Builtin.Int.intBits i
def binop (o : Operator) (x y : D) : Option R := match o, x, y with
  | .Add, .int a, .int b => some (.val (.int (a + b)))
  | .Sub, .int a, .int b => some (.val (.int (a - b)))
  | .Mult, .int a, .int b => if intBits a + intBits b ≤ 134217728 then some (.val (.int (a * b))) else none
  | .FloorDiv, .int a, .int b => if b ≠ 0 ∧ Builtin.divisionGoesByPylong a b = false then some (.val (.int (a.fdiv b))) else none
  | .Mod, .int a, .int b => if b ≠ 0 then some (.val (.int (a.fmod b))) else none
  | .Pow, .int a, .int b => if 0 ≤ b ∧ b ≤ 1000000 ∧ a.natAbs < 2 ^ 64 then some (.val (.int (a ^ b.toNat))) else none
  | .Add, .str a, .str b => if a.length + b.length ≤ line then some (.val (.str (a ++ b))) else none
  | .Add, .tup a, .tup b => if a.length + b.length ≤ line then some (.val (.tup (a ++ b))) else none
  | .Add, .lst a, .lst b => if a.length + b.length ≤ line then some (.fresh (a ++ b)) else none
  | .Mult, .lst a, .int k => if k.natAbs ≤ 1000000000 ∧ a.length * k.toNat ≤ line then some (.fresh (List.replicate k.toNat a).flatten) else none
  | .Mult, .tup a, .int k => if a ≠ [] ∧ 2 ≤ k.toNat ∧ k.toNat ≤ 1000 ∧ a.length ≤ 1000 then some (.val (.tup (List.replicate k.toNat a).flatten)) else if k = 1 then some (.val (.tup a)) else if a ≠ [] ∧ k.natAbs ≤ 1000000000 ∧ k.toNat = 0 then some (.val (.tup [])) else none
  | _, _, _ => none
def flatD : D → Bool
  | .non | .bl _ | .int _ | .str _ => true
  | _ => false
def cmpop (S : Sto) (o : CmpOp) (x y : D) : Option Bool := match o, x, y with
  | .Lt, .int a, .int b => some (decide (a < b))
  | .LtE, .int a, .int b => some (decide (a ≤ b))
  | .Gt, .int a, .int b => some (decide (b < a))
  | .GtE, .int a, .int b => some (decide (b ≤ a))
  | .Is, d, .non => match d with
    | .non => some true
    | .bl _ | .int _ | .str _ | .tup _ | .lst _ | .scr _ | .cel _ | .fn _ | .lam _ => some false
  | .IsNot, d, .non => match d with
    | .non => some false
    | .bl _ | .int _ | .str _ | .tup _ | .lst _ | .scr _ | .cel _ | .fn _ | .lam _ => some true
  | .Is, .bl a, .bl b => some (decide (a = b))
  | .IsNot, .bl a, .bl b => some (!decide (a = b))
  | .Eq, .str a, .str b => some (decide (a = b))
  | .NotEq, .str a, .str b => some (!decide (a = b))
  | .Eq, d, e => match d.pd [], e.pd [] with
    | some a, some b => if SeqAt.shaped a = true ∧ SeqAt.shaped b = true then some (PyData.eqv a b) else none
    | _, _ => none
  | .NotEq, d, e => match d.pd [], e.pd [] with
    | some a, some b => if SeqAt.shaped a = true ∧ SeqAt.shaped b = true then some (!PyData.eqv a b) else none
    | _, _ => none
  | _, _, _ => none
/-- the type of a value -/
def tyD : D → Option String
  | .non => some "NoneType"
  | .bl _ => some "bool"
  | .int _ => some "int"
  | .str _ => some "str"
  | .tup _ => some "tuple"
  | .lst _ => some "list"
  | .cel _ => some "dict"
  | _ => none
def isiL (t : String) : List String → Option Bool
  | [] => some false
  | c :: r => match kitB t c with
    | some true => some true
    | some false => isiL t r
    | none => none
def allBl : List D → Option (List Bool)
  | [] => some []
  | .bl b :: r => (allBl r).map (b :: ·)
  | _ => none
def allInt : List D → Option (List Int)
  | [] => some []
  | .int b :: r => (allInt r).map (b :: ·)
  | _ => none
def biD (S : Sto) (b : Bi) (as : List D) : Option R := match b, as with
  | .len, [.str x] => if x.length ≤ line then some (.val (.int x.length)) else none
  | .len, [.tup xs] => some (.val (.int xs.length))
  | .len, [.lst xs] => some (.val (.int xs.length))
  | .len, [.scr xs] => some (.val (.int xs.length))
  | .abs, [.int i] => some (.val (.int (if i < 0 then -i else i)))
  | .int, [.int i] => some (.val (.int i))
  | .int, [.bl b] => some (.val (.int (if b then 1 else 0)))
  | .list, [.tup xs] => some (.fresh xs)
  | .list, [.lst xs] => some (.fresh xs)
  | .list, [.scr xs] => some (.fresh xs)
  | .tuple, [.tup xs] => some (.val (.tup xs))
  | .tuple, [.lst xs] => some (.val (.tup xs))
  | .all, [.lst xs] => (allBl xs).map fun bs => .val (.bl (bs.all id))
  | .any, [.lst xs] => (allBl xs).map fun bs => .val (.bl (bs.any id))
  | .sum, [.lst xs] => (allInt xs).map fun bs => .val (.int bs.sum)
  | .gcd, [.int a, .int b] => some (.val (.int ((Nat.gcd a.natAbs b.natAbs : Nat) : Int)))
  | .max2, [.int a, .int b] => some (.val (.int (if b > a then b else a)))
  | .min2, [.int a, .int b] => some (.val (.int (if b < a then b else a)))
  | .repr, [d] => match d.pd S with
    | some p => if p.showable = true ∧ p.shown.length ≤ line ∧ p.depth ≤ 60 ∧ (p.hasDict = true → noLst p = true) then some (.val (.str p.shown)) else none
    | none => none
  | _, _ => none
def idxD (x k : D) : Option D := match x, k with
  | .lst xs, .int i => (ixD xs.length i).bind fun j => xs[j]?
  | .tup xs, .int i => (ixD xs.length i).bind fun j => xs[j]?
  | .scr xs, .int i => (ixD xs.length i).bind fun j => xs[j]?
  | _, _ => none
def sIx (n d : Nat) : Option Int → Nat := HT.sIx n d
def cutD (xs : List D) (lo hi : Option Int) : List D := (xs.drop (HT.sIx xs.length 0 lo)).take (HT.sIx xs.length xs.length hi - HT.sIx xs.length 0 lo)
def slcD (x : D) (lo hi : Option Int) : Option R := match x with
  | .lst xs => some (.fresh (cutD xs lo hi))
  | .tup xs => some (.val (.tup (cutD xs lo hi)))
  | _ => none
/-! ### places: a slot is looked at where it is used -/
inductive Pl where
  | var (i : Nat) | tmp (d : D)
def resP : Pl → Ev D
  | .tmp d => Ev.ok d
  | .var i => fun s => match s.env[i]? with
    | some (.val d) => some (.ok d, s)
    | some (.own xs) => some (.ok (.lst xs), s)
    | some (.lent xs) => some (.ok (.lst xs), s)
    | _ => none
def resL : List Pl → Ev (List D)
  | [] => Ev.ok []
  | p :: r => (resP p).bind fun d => (resL r).bind fun ds => Ev.ok (d :: ds)
/-- a name as a value: a list of ours is frozen -/
def getV (i : Nat) : Ev R := fun s => match s.env[i]? with
  | some (.val d) => some (.ok (.val d), s)
  | some (.own xs) => some (.ok (.val (.lst xs)), { s with env := s.env.set i (.val (.lst xs)) })
  | _ => none
def getP (i : Nat) : Ev Pl := fun s => match s.env[i]? with
  | some (.val _) | some (.own _) | some (.lent _) => some (.ok (.var i), s)
  | _ => none
def getO (i : Nat) : Ev Unit := fun s => match s.env[i]? with
  | some (.own _) => some (.ok (), s)
  | _ => none
/-- a name is stored -/
def R.bd : R → Bd
  | .val d => .val d
  | .fresh xs => .own xs
def putV (i : Nat) (r : R) : Ev Unit := fun s => match s.env[i]? with
  | some (.lent _) | none => none
  | some _ => some (.ok (), { s with env := s.env.set i r.bd })
def newCell : Ev Nat := fun s => some (.ok s.S.length, { s with S := s.S ++ [[]] })
structure Rec where
  e : I → Ev R
  t : I → Ev Bool
  s : J → Ev Fl
section
variable (P : Prg) (call : Str → List D → List (Option D) → Sto → Option (Except Exn R × Sto)) (r : Rec)
def eP : I → Ev Pl
  | .var i => getP i
  | a => (r.e a).bind fun x => Ev.ok (.tmp x.d)
def eA : List I → Ev (List D)
  | [] => Ev.ok []
  | a :: as => (r.e a).bind fun x => (eA as).bind fun xs => Ev.ok (x.d :: xs)
def ePs : List I → Ev (List Pl)
  | [] => Ev.ok []
  | a :: as => (eP r a).bind fun x => (ePs as).bind fun xs => Ev.ok (x :: xs)
def sto {α : Type} (f : Sto → Ev α) : Ev α := fun s => f s.S s
/-- what the captured names hold -/
def capL (caps : List Nat) (env : List Bd) : List (Option D) := (List.range env.length).map fun i => if caps.contains i = true then (match env[i]? with
  | some (.val d) => some d
  | _ => none) else none
def callC (caps : List Nat) (f : Str) (ds : List D) : Ev R := fun s => match call f ds (capL caps s.env) s.S with
  | none => none
  | some (x, S') => some (x, { s with S := S' })
def callS (f : Str) (ds : List D) : Ev R := fun s => match call f ds s.L s.S with
  | none => none
  | some (x, S') => some (x, { s with S := S' })
def intD : D → Option Int
  | .int i => some i
  | _ => none
def ePart : Option I → Ev (Option Int)
  | none => Ev.ok none
  | some a => (r.e a).bind fun x => (Ev.of (intD x.d)).bind fun i => Ev.ok (some i)
/-- the items that a loop walks, and the slots that are lent meanwhile -/
def itemsD : D → Option (List D)
  | .lst xs | .tup xs | .scr xs => some xs
  | _ => none
def rangeD (lo : Int) (n : Nat) : List D := (List.range n).map fun k => .int (lo + (k : Nat))
def enumD (xs : List D) : List D := (List.range xs.length).map fun k => .tup [.int (k : Nat), xs.getD k .non]
def zipD (xs ys : List D) : List D := (xs.zip ys).map fun p => .tup [p.1, p.2]
def small62 (i : Int) : Bool := Nat.ble i.natAbs 4611686018427387903
def plSlots : List Pl → List Nat
  | [] => []
  | .var i :: r => i :: plSlots r
  | .tmp _ :: r => plSlots r
def lstTup (a b : D) : Bool := match a, b with
  | .lst _, .lst _ => true
  | .tup _, .tup _ => true
  | _, _ => false
def eI : I → Ev (List D × List Nat)
  | .rng a => (r.e a).bind fun x => (Ev.of (intD x.d)).bind fun j => if small62 j then Ev.ok (rangeD 0 j.toNat, []) else Ev.no
  | .rng2 a b => (r.e a).bind fun x => (r.e b).bind fun y => (Ev.of (intD x.d)).bind fun i => (Ev.of (intD y.d)).bind fun j => if small62 i && small62 j then Ev.ok (rangeD i (j - i).toNat, []) else Ev.no
  | .zip a b => (eP r a).bind fun p => (eP r b).bind fun q => (resP p).bind fun x => (resP q).bind fun y => if lstTup x y then (Ev.of (itemsD x)).bind fun xs => (Ev.of (itemsD y)).bind fun ys => Ev.ok (zipD xs ys, plSlots [p, q]) else Ev.no
  | .enm a => (eP r a).bind fun p => (resP p).bind fun x => match x with
    | .lst xs => Ev.ok (enumD xs, plSlots [p])
    | _ => Ev.no
  | .rvs a => (eP r a).bind fun p => (resP p).bind fun x => match x with
    | .lst xs => Ev.ok (xs.reverse, plSlots [p])
    | _ => Ev.no
  | a => (eP r a).bind fun p => (resP p).bind fun x => (Ev.of (itemsD x)).bind fun xs => Ev.ok (xs, plSlots [p])
/-- own lists are lent; lent ones stay lent -/
def lend : List Nat → List Bd → List Bd
  | [], env => env
  | i :: r, env => lend r (match env[i]? with
    | some (.own xs) => env.set i (.lent xs)
    | _ => env)
/-- given back: what was owned ahead is owned again -/
def back (old : List Bd) : List Nat → List Bd → List Bd
  | [], env => env
  | i :: r, env => back old r (match old[i]?, env[i]? with
    | some (.own _), some (.lent ys) => env.set i (.own ys)
    | _, _ => env)
def lending {α : Type} (is : List Nat) (m : Ev α) : Ev α := fun s => match m { s with env := lend is s.env } with
  | none => none
  | some (x, s') => some (x, { s' with env := back s.env is s'.env })
/-- a target of a loop: one name, or a tuple of names -/
def putT (t : List Nat) (one : Bool) (d : D) : Ev Unit := match t, one with
  | [i], true => putV i (.val d)
  | t, false => match d with
    | .tup xs => if xs.length = t.length then go t xs else Ev.no
    | .lst xs => if xs.length = t.length then Ev.no else Ev.no
    | _ => Ev.no
  | _, _ => Ev.no
where go : List Nat → List D → Ev Unit
  | i :: t, d :: ds => (putV i (.val d)).bind fun _ => go t ds
  | _, _ => Ev.ok ()
def wipeE (own : List Nat) (env : List Bd) : List Bd := match own with
  | [] => env
  | i :: r => (wipeE r env).set i .un
/-- a block's own slots as they were ahead -/
def unwipe (own : List Nat) (old env : List Bd) : List Bd := match own with
  | [] => env
  | i :: r => (unwipe r old env).set i (old.getD i .un)
def ifsT : List I → Ev Bool
  | [] => Ev.ok true
  | a :: as => (r.t a).bind fun b => if b = true then ifsT as else Ev.ok false
def lcL (elt : I) (t : List Nat) (one : Bool) (ifs : List I) (own : List Nat) : List D → Ev (List D)
  | [] => Ev.ok []
  | d :: ds => (putT t one d).bind fun _ => (ifsT r ifs).bind fun b =>
    (if b = true then (r.e elt).bind fun x => Ev.ok [x.d] else Ev.ok []).bind fun x =>
      fun s => ((lcL elt t one ifs own ds).bind fun xs => Ev.ok (x ++ xs)) { s with env := wipeE own s.env }
def noLent (own : List Nat) (env : List Bd) : Bool := own.all fun i => match env[i]? with
  | some .un | some (.val _) => true
  | _ => false
def eLc (elt : I) (t : List Nat) (one : Bool) (it : I) (ifs : List I) (own : List Nat) : Ev R :=
  (eI r it).bind fun (ds, is) => if ds.length ≤ line then
    fun s => if noLent own s.env = true ∧ (own.all fun i => !is.contains i) = true then
      (match lcL r elt t one ifs own ds { s with env := wipeE own (lend is s.env) } with
      | some (.ok xs, s') => some (.ok (.fresh xs), { s' with env := unwipe own s.env (back s.env is s'.env) })
      | _ => none) else none
  else Ev.no
def E1 : I → Ev R
  | .cst d => if scalD d = true then Ev.ok (.val d) else Ev.no
  | .glb _ d => Ev.ok (.val d)
  | .var i => getV i
  | .bin o a b => (eP r a).bind fun p => (eP r b).bind fun q => (resP p).bind fun x => (resP q).bind fun y => Ev.of (binop o x y)
  | .neg a => (r.e a).bind fun x => (Ev.of (intD x.d)).bind fun i => Ev.ok (.val (.int (-i)))
  | .nt a => (eP r a).bind fun p => (resP p).bind fun x => sto fun S => (Ev.of (truD S x)).bind fun b => Ev.ok (.val (.bl (!b)))
  | .and a b => (r.e a).bind fun x => match x.d with
    | .bl true => r.e b
    | .bl false => Ev.ok (.val (.bl false))
    | _ => Ev.no
  | .or a b => (r.e a).bind fun x => match x.d with
    | .bl false => r.e b
    | .bl true => Ev.ok (.val (.bl true))
    | _ => Ev.no
  | .cmp o a b => (eP r a).bind fun p => (eP r b).bind fun q => (resP p).bind fun x => (resP q).bind fun y => sto fun S => (Ev.of (cmpop S o x y)).bind fun b => Ev.ok (.val (.bl b))
  | .chn o o' a b c => (r.e a).bind fun x => (r.e b).bind fun y => sto fun S => (Ev.of (cmpop S o x.d y.d)).bind fun k =>
    if k = true then (r.e c).bind fun z => sto fun S => (Ev.of (cmpop S o' y.d z.d)).bind fun b => Ev.ok (.val (.bl b)) else Ev.ok (.val (.bl false))
  | .ite t a b => (r.t t).bind fun k => if k = true then r.e a else r.e b
  | .call f as => (eA r as).bind fun ds => callS call f ds
  | .callv f as => (r.e f).bind fun x => match x.d with
    | .fn f => (eA r as).bind fun ds => callS call f ds
    | _ => Ev.no
  | .callc f as caps => (eA r as).bind fun ds => callC call caps f ds
  | .callv0 i => fun s => match s.env[i]? with
    | some (.val (.lam x)) => callS call x [] s
    | some (.val (.fn x)) => callS call x [] s
    | _ => none
  | .lam x => Ev.ok (.val (.lam x))
  | .bi b as => (ePs r as).bind fun ps => (resL ps).bind fun ds => sto fun S => Ev.of (biD S b ds)
  | .isi a ts => (eP r a).bind fun p => (resP p).bind fun x => (Ev.of (tyD x)).bind fun t => (Ev.of (isiL t ts)).bind fun b => Ev.ok (.val (.bl b))
  | .bits a => (r.e a).bind fun x => (Ev.of (intD x.d)).bind fun i => Ev.ok (.val (.int (intBits i : Nat)))
  | .app i a => (getO i).bind fun _ => (r.e a).bind fun x => fun s => match s.env[i]? with
    | some (.own xs) => if xs.length < line then some (.ok (.val .non), { s with env := s.env.set i (.own (xs ++ [x.d])) }) else none
    | _ => none
  | .pop i a => (getO i).bind fun _ => (r.e a).bind fun x => (Ev.of (intD x.d)).bind fun k => fun s => match s.env[i]? with
    | some (.own xs) => if xs.length ≤ line then (match ixD xs.length k with
      | some j => match xs[j]? with
        | some d => some (.ok (.val d), { s with env := s.env.set i (.own (xs.eraseIdx j)) })
        | none => none
      | none => none) else none
    | _ => none
  | .idx a b => (eP r a).bind fun p => (r.e b).bind fun k => (resP p).bind fun x => (Ev.of (idxD x k.d)).bind fun d => Ev.ok (.val d)
  | .key o k => (r.e o).bind fun x => match x.d with
    | .cel n => fun s => match (s.S[n]?).bind fun kvs => kvs.lookup k with
      | some d => some (.ok (.val d), s)
      | none => none
    | _ => Ev.no
  | .slc a lo hi => (eP r a).bind fun p => (ePart r lo).bind fun l => (ePart r hi).bind fun h => (resP p).bind fun x => Ev.of (slcD x l h)
  | .rev a => (eP r a).bind fun p => (resP p).bind fun x => match x with
    | .lst xs => Ev.ok (.fresh xs.reverse)
    | _ => Ev.no
  | .tup as => (eA r as).bind fun ds => if ds.length ≤ line then Ev.ok (.val (.tup ds)) else Ev.no
  | .lst as => (eA r as).bind fun ds => if ds.length ≤ line then Ev.ok (.fresh ds) else Ev.no
  | .dic [] _ => newCell.bind fun n => Ev.ok (.val (.cel n))
  | .dic ks as => newCell.bind fun n => (eA r as).bind fun ds => fun s => match s.S[n]? with
    | some [] => if ks.length = ds.length ∧ ks.Nodup ∧ ks.length ≤ 15 then some (.ok (.val (.cel n)), { s with S := s.S.set n (ks.zip ds) }) else none
    | _ => none
  | .lc elt t one it ifs own => eLc r elt t one it ifs own
  | _ => Ev.no
/-- tests -/
def T1 : I → Ev Bool
  | .nt a => (r.t a).bind fun b => Ev.ok (!b)
  | .and a b => (r.t a).bind fun k => if k = true then r.t b else Ev.ok false
  | .or a b => (r.t a).bind fun k => if k = true then Ev.ok true else r.t b
  | .cmp o a b => (eP r a).bind fun p => (eP r b).bind fun q => (resP p).bind fun x => (resP q).bind fun y => sto fun S => Ev.of (cmpop S o x y)
  | .chn o o' a b c => (r.e a).bind fun x => (r.e b).bind fun y => sto fun S => (Ev.of (cmpop S o x.d y.d)).bind fun k =>
    if k = true then (r.e c).bind fun z => sto fun S => Ev.of (cmpop S o' y.d z.d) else Ev.ok false
  | a => (eP r a).bind fun p => (resP p).bind fun x => sto fun S => Ev.of (truD S x)
def kvPut (kvs : List (Str × D)) (k : Str) (d : D) : List (Str × D) := if (kvs.lookup k).isSome = true then kvs.map fun p => if p.1 = k then (k, d) else p else kvs ++ [(k, d)]
def putTt (t : Tt) (x : R) : Ev Unit := match t with
  | .nm i => putV i x
  | .ix i k => (getO i).bind fun _ => (r.e k).bind fun y => (Ev.of (intD y.d)).bind fun k => fun s => match s.env[i]? with
    | some (.own xs) => (match ixD xs.length k with
      | some j => some (.ok (), { s with env := s.env.set i (.own (xs.set j x.d)) })
      | none => none)
    | _ => none
  | .ky o k => (r.e o).bind fun y => match y.d with
    | .cel n => fun s => match s.S[n]? with
      | some kvs => if kvs.length < line then some (.ok (), { s with S := s.S.set n (kvPut kvs k x.d) }) else none
      | none => none
    | _ => Ev.no
def putTs : List Tt → List D → Ev Unit
  | t :: ts, d :: ds => (putTt r t (.val d)).bind fun _ => putTs ts ds
  | _, _ => Ev.ok ()
def putPar : List Nat → List D → Ev Unit
  | i :: is, d :: ds => (putPar is ds).bind fun _ => putV i (.val d)
  | _, _ => Ev.ok ()
def sL : List J → Ev Fl
  | [] => Ev.ok .nx
  | j :: js => (r.s j).bind fun f => match f with
    | .nx => sL js
    | f => Ev.ok f
def forL (t : List Nat) (one : Bool) (body : Ev Fl) : List D → Ev Fl
  | [] => Ev.ok .nx
  | d :: ds => (putT t one d).bind fun _ => body.bind fun f => match f with
    | .nx => forL t one body ds
    | .ct => forL t one body ds
    | .bk => Ev.ok .nx
    | .rt x => Ev.ok (.rt x)
def whlL (t : Ev Bool) (body : Ev Fl) : Nat → Ev Fl
  | 0 => Ev.no
  | n + 1 => t.bind fun b => if b = true then body.bind fun f => match f with
    | .nx => whlL t body n
    | .ct => whlL t body n
    | .bk => Ev.ok .nx
    | .rt x => Ev.ok (.rt x)
    else Ev.ok .nx
/-- an owned list that is returned goes over to the caller -/
def retV : I → Ev R
  | .var i => fun s => match s.env[i]? with
    | some (.own xs) => some (.ok (.fresh xs), { s with env := s.env.set i .un })
    | some (.val d) => some (.ok (.val d), s)
    | _ => none
  | a => r.e a
/-- what a clause hands back: written texts (inl), fields of the error (inr) -/
def hdV (x : Exn) : List (Str ⊕ Str) → Option (List D)
  | [] => some []
  | .inl a :: q => (hdV x q).map (.str a :: ·)
  | .inr f :: q => match x.fs.lookup f, hdV x q with
    | some d, some ds => some (d :: ds)
    | _, _ => none
def hdsV (x : Exn) : List (Str × Nat × List (Str ⊕ Str)) → Option R
  | [] => none
  | (c, _, q) :: hs => if x.cls = c then (hdV x q).bind fun ds => if ds.length ≤ line then some (.val (.tup ds)) else none else hdsV x hs
def S1 : J → Ev Fl
  | .ex e => (r.e e).bind fun _ => Ev.ok .nx
  | .set (.nm i) e => (r.e e).bind fun x => (putV i x).bind fun _ => Ev.ok .nx
  | .set t e => (r.e e).bind fun x => (putTt r t (.val x.d)).bind fun _ => Ev.ok .nx
  | .setT ts e => (r.e e).bind fun x => match x.d with
    | .tup ds => if ds.length = ts.length then (putTs r ts ds).bind fun _ => Ev.ok .nx else Ev.no
    | .lst ds => if ds.length = ts.length then (putTs r ts ds).bind fun _ => Ev.ok .nx else Ev.no
    | _ => Ev.no
  | .par is es => (eA r es).bind fun ds => if ds.length = is.length then (putPar is ds).bind fun _ => Ev.ok .nx else Ev.no
  | .aug i o e => (getP i).bind fun _ => (r.e e).bind fun y => (resP (.var i)).bind fun x => match o, x, y.d with
    | .Add, .int a, .int b => (putV i (.val (.int (a + b)))).bind fun _ => Ev.ok .nx
    | .Sub, .int a, .int b => (putV i (.val (.int (a - b)))).bind fun _ => Ev.ok .nx
    | _, _, _ => Ev.no
  | .iff t a b => (r.t t).bind fun k => if k = true then sL r a else sL r b
  | .for_ t one it body => (eI r it).bind fun (ds, is) => lending is (forL t one (sL r body) ds)
  | .whl t body => whlL (r.t t) (sL r body) P.wf
  | .ret e => (retV r e).bind fun x => Ev.ok (.rt x)
  | .retN => Ev.ok (.rt (.val .non))
  | .rse c as => (eA r as).bind fun ds => fun s => match P.excs.lookup c with
    | some fs => if fs.length = ds.length ∧ ds.length ≤ 15 then some (.error ⟨c, fs.zip ds⟩, s) else none
    | none => none
  | .try_ body hs => fun s => match sL r body s with
    | some (.error x, s') => if (P.excs.lookup x.cls).isSome = true ∧ (hs.all fun h => decide (h.2.1 < s'.env.length)) = true then (match hdsV x hs with
      | some v => some (.ok (.rt v), s')
      | none => none) else none
    | o => o
  | .pass => Ev.ok .nx
  | .brk => Ev.ok .bk
  | .cnt => Ev.ok .ct
end
def ev (P : Prg) (call : Str → List D → List (Option D) → Sto → Option (Except Exn R × Sto)) : Nat → Rec
  | 0 => ⟨fun _ => Ev.no, fun _ => Ev.no, fun _ => Ev.no⟩
  | n + 1 => ⟨E1 call (ev P call n), T1 (ev P call n), S1 P (ev P call n)⟩
def endR : Fl → Option R
  | .rt x => some x
  | .nx => some (.val .non)
  | _ => none
def hasL (L : List (Option D)) (fr : List Nat) : Bool := fr.all fun i => match L[i]? with
  | some (some _) => true
  | _ => false
def bdL : Option D → Bd
  | some d => .val d
  | none => .un
/-- a def called: k calls, one in another; L: what the captured names hold -/
def callN (P : Prg) : Nat → Str → List D → List (Option D) → Sto → Option (Except Exn R × Sto)
  | 0, _, _, _, _ => none
  | k + 1, f, ds, L, S => match P.defs.lookup f with
    | some df => if ds.length = df.ps.length then
        (match sL (ev P (callN P k) P.af) df.body ⟨ds.map .val ++ List.replicate (df.N - ds.length) .un, S, L⟩ with
        | some (.ok f, s') => (endR f).map fun x => (.ok x, s'.S)
        | some (.error x, s') => some (.error x, s'.S)
        | none => none)
      else none
    | none => match P.lams.lookup f with
      | none => none
      | some lm => if ds.isEmpty = true ∧ L.length = lm.n ∧ hasL L lm.fr = true then
          (match (ev P (callN P k) P.af).e lm.body ⟨L.map bdL, S, []⟩ with
          | some (x, s') => some (x, s'.S)
          | none => none)
        else none
end Rf
/-! Ra: what the head is asked -/
namespace Rf
open PySem PySem.Spec L2 PyProof.Rows
def sinB (K : PySem.W.Frag) (C0 : Addr) : Bool := decide (PySem.W.specialIn K (.ref C0) "__getattribute__" = some (some (.builtin "type.__getattribute__"))) && (decide (PySem.W.typeIn K (.ref C0) = some (.type "type")) && (PySem.W.readsIn K C0 (.type "type") &&
  (match PySem.W.findCls K (.ref C0) (.type "type") "__init__" with
  | some (.val (.builtin z)) => decide (z = "ValueError.__init__")
  | _ => false)))
def oexB (K : PySem.W.Frag) (C : Addr) : Bool := match K.lookup C with
  | some ⟨.type "type", _, .cls cd, sl⟩ => (match cd.mro, sl.toList with
    | .ref C2 :: bm, [_, _, _, _, some (.builtin n), _] => C2 == C && (n == "ValueError.__new__" && (!cd.hasDel && (PySem.HandSPX.refsVE bm && cd.hasDict)))
    | _, _ => false)
  | _ => false
def excB (K : PySem.W.Frag) (c b : Str) (fs : List Str) : Bool := oexB K (He.ga K c) && (He.eqO (PySem.W.findIn K (.ref (He.ga K c)) "__setattr__") (some (some (.builtin "object.__setattr__"))) && (decide (PySem.W.subIn K (.ref (He.ga K c)) (.type "BaseException") = some true) &&
  (decide (PySem.W.typeIn K (.ref (He.ga K c)) = some (.type "type")) && (PySem.W.keepIn K (.ref (He.ga K c)) && (xfB K (He.ga K c) && (fs.all (fun f => decide (PySem.W.findIn K (.ref (He.ga K c)) f = some none)) &&
  (He.eqO (PySem.W.findIn K (.ref (He.ga K c)) "__init__") (some (some (.ref (He.ma K (He.ga K c) "__init__")))) && (decide (PySem.W.typeIn K (.ref (He.ma K (He.ga K c) "__init__")) = some (.type "function")) && sinB K (He.ga K b)))))))))
mutual
def valB (K : PySem.W.Frag) : D → Value → Bool
  | .non, .none => true
  | .bl b, .bool c => b == c
  | .int i, .int j _ => i == j
  | .str x, .str y _ => decide (x = y)
  | .tup ds, .ref a => (match K.lookup a with
    | some o => decide (o.cls = .type "tuple") && (match o.data with
      | .seq its _ => decide (its.size ≤ 1000) && valsB K ds its.toList
      | _ => false)
    | none => false)
  | _, _ => false
def valsB (K : PySem.W.Frag) : List D → List Value → Bool
  | [], [] => true
  | d :: ds, u :: us => valB K d u && valsB K ds us
  | _, _ => false
end
def glbB (K : PySem.W.Frag) (x : Str) (d : D) : Bool := match d with
  | .fn y => decide (y = x) && (He.eqO (PySem.W.nsIn K mainGlobals x) (some (some (.ref (He.ga K x)))) && PySem.W.keepIn K (.ref (He.ga K x)))
  | d => (match PySem.W.nsIn K mainGlobals x with
    | some (some u) => valB K d u
    | _ => false)
def bfnB (K : PySem.W.Frag) (x : Str) (id : String) : Bool := He.eqO (PySem.W.nsIn K mainGlobals x) (some (some (.builtin id)))
/-- what is asked of the written part over and above the facts -/
def exB (P : Prg) (bs : List (Str × Str)) (K : PySem.W.Frag) : Bool := (P.glbs.all fun p => glbB K p.1 p.2) && ((P.bfn.all fun p => bfnB K p.1 p.2) && ((P.excs.all fun p => excB K p.1 ((bs.lookup p.1).getD "") p.2) &&
  (P.excs.all fun p => P.excs.all fun r => decide (PySem.W.exmOne K (.ref (He.ga K p.1)) (.ref (He.ga K r.1)) = some (decide (p.1 = r.1))))))
/-- the names asked of the head -/
def fasOf (P : Prg) (law : Str) : List He.Fa := .glo law :: (P.free.map He.Fa.free ++ (P.lams.map (fun p => He.Fa.free p.1) ++ (P.defs.map (fun p => He.Fa.glo p.1) ++ P.excs.map fun p => He.Fa.glo p.1)))
/-! ### the Hook: the module's names, the statics -/
def frC (g : Addr → Option Obj) : PySem.W.Frag := He.frT g (PySem.cStatics :: He.asD g 5)
def obC (fa : List He.Fa) (fn : List He.DefD) (tf : List He.Defn) (ex : PySem.W.Frag → Bool) (g : Addr → Option Obj) : He.AlX :=
  (He.obsT fa fn [] (frC g), ex (frC g) && He.tabsB g tf (frC g))
theorem saysC {fa : List He.Fa} {fn : List He.DefD} {tf : List He.Defn} {ex : PySem.W.Frag → Bool} {w : World} {h : Heap} (e : obC fa fn tf ex h.get? = He.valX fn [] w) : He.SaysX fa fn [] tf ex w h (frC h.get?) := by
  obtain ⟨e1, e2⟩ := Prod.mk.inj (show (He.obsT fa fn [] (frC h.get?), ex (frC h.get?) && He.tabsB h.get? tf (frC h.get?)) = (He.valT fn [] w, true) from e)
  obtain ⟨hx, ht⟩ := Bool.and_eq_true_iff.mp e2
  have tab : ∀ p ∈ tf, PySem.W.codeHdIn (frC h.get?) (He.cT (frC h.get?) p).1 (He.cT (frC h.get?) p).2 = true ∧ ∃ o, h.get? (He.cT (frC h.get?) p).2 = some o ∧ He.emptyTab o = true := fun p hp => by
    obtain ⟨c1, c2⟩ := Bool.and_eq_true_iff.mp (List.all_eq_true.mp ht p hp)
    refine ⟨c1, ?_⟩
    split at c2
    · rename_i o q
      exact ⟨o, q, c2⟩
    · cases c2
  refine ⟨e1, hx, fun p hp => (tab p hp).1, fun p hp => ?_, fun p hp => ?_⟩
  · obtain ⟨_, o, q, t⟩ := tab p hp
    exact He.frT_none q t
  · obtain ⟨_, o, q, t⟩ := tab p hp
    rw [q, He.emptyTab_eq t]
def hookC (fa : List He.Fa) (fn : List He.DefD) (tf : List He.Defn) (ex : PySem.W.Frag → Bool) : PySem.W.Hook where
  α := He.AlX
  obs := fun z => obC fa fn tf ex z.heap.get?
  val := fun w => He.valX fn [] w
  says := fun w h => ∃ K : PySem.W.Frag, K.In h ∧ He.SaysX fa fn [] tf ex w h K
  of := fun _ _ q => ⟨_, He.frT_in, saysC q⟩
  keeps := fun _ _ _ ⟨K, X, c⟩ k => ⟨K, X.keeps k, c.t, c.more, c.hd, c.out, fun p hp => k _ _ (c.empty p hp)⟩
theorem obC_eq {fa : List He.Fa} {fn : List He.DefD} {tf : List He.Defn} {ex : PySem.W.Frag → Bool} {g : Addr → Option Obj} {z : Shared} (h : ∀ a, g a = z.heap.get? a) : obC fa fn tf ex g = (hookC fa fn tf ex).obs z := by
  rw [show g = z.heap.get? from funext h]
  rfl
end Rf
namespace K12
open PySem PySem.Spec PyProof.Rows L2 Rf
/-! ### the inner form -/
abbrev caps : List Nat := [16, 17, 18, 19, 20, 21, 23]
def df_is_whole : Df := ⟨["value"], 1, [(.ret (.and (.isi (.var 0) ["int"]) (.nt (.isi (.var 0) ["bool"]))))]⟩
def df_in_tuples : Df := ⟨["value"], 2, [(.iff (.nt (.isi (.var 0) ["tuple", "list"])) [(.ret (.var 0))] []), (.ret (.bi .tuple [(.lc (.call "in_tuples" [(.var 1)]) [1] true (.var 0) [] [1])]))]⟩
def df_need_between : Df := ⟨["what", "number", "low", "high"], 4, [(.iff (.nt (.call "is_whole" [(.var 1)])) [(.rse "BadNumber" [(.var 0), (.var 1)])] []), (.iff (.or (.and (.cmp .IsNot (.var 2) (.cst .non)) (.cmp .Lt (.var 1) (.var 2))) (.and (.cmp .IsNot (.var 3) (.cst .non)) (.cmp .Gt (.var 1) (.var 3)))) [(.rse "BadNumber" [(.var 0), (.var 1)])] [])]⟩
def df_is_pair : Df := ⟨["value"], 1, [(.iff (.or (.nt (.isi (.var 0) ["tuple", "list"])) (.cmp .NotEq (.bi .len [(.var 0)]) (.cst (.int 2)))) [(.ret (.cst (.bl false)))] []), (.ret (.and (.call "is_whole" [(.idx (.var 0) (.cst (.int 0)))]) (.and (.call "is_whole" [(.idx (.var 0) (.cst (.int 1)))]) (.cmp .Gt (.idx (.var 0) (.cst (.int 1))) (.cst (.int 0))))))]⟩
def df_is_ratio : Df := ⟨["value"], 1, [(.ret (.or (.call "is_whole" [(.var 0)]) (.and (.isi (.var 0) ["tuple"]) (.call "is_pair" [(.var 0)]))))]⟩
def df_lowest : Df := ⟨["top", "bottom"], 3, [(.set (.nm 2) (.ite (.cmp .Gt (.var 1) (.cst (.int 0))) (.bi .gcd [(.var 0), (.var 1)]) (.neg (.bi .gcd [(.var 0), (.var 1)])))), (.ret (.tup [(.bin .FloorDiv (.var 0) (.var 2)), (.bin .FloorDiv (.var 1) (.var 2))]))]⟩
def df_told : Df := ⟨["ratio"], 1, [(.iff (.call "is_whole" [(.var 0)]) [(.ret (.tup [(.var 0), (.cst (.int 1))]))] []), (.iff (.nt (.call "is_pair" [(.var 0)])) [(.rse "BadRow" [(.var 0)])] []), (.ret (.call "lowest" [(.idx (.var 0) (.cst (.int 0))), (.idx (.var 0) (.cst (.int 1)))]))]⟩
def df_summed : Df := ⟨["one", "other"], 2, [(.ret (.call "lowest" [(.bin .Add (.bin .Mult (.idx (.var 0) (.cst (.int 0))) (.idx (.var 1) (.cst (.int 1)))) (.bin .Mult (.idx (.var 1) (.cst (.int 0))) (.idx (.var 0) (.cst (.int 1))))), (.bin .Mult (.idx (.var 0) (.cst (.int 1))) (.idx (.var 1) (.cst (.int 1))))]))]⟩
def df_scaled : Df := ⟨["one", "other"], 2, [(.ret (.call "lowest" [(.bin .Mult (.idx (.var 0) (.cst (.int 0))) (.idx (.var 1) (.cst (.int 0)))), (.bin .Mult (.idx (.var 0) (.cst (.int 1))) (.idx (.var 1) (.cst (.int 1))))]))]⟩
def df_is_loose_row : Df := ⟨["value"], 2, [(.ret (.and (.isi (.var 0) ["tuple"]) (.bi .all [(.lc (.call "is_ratio" [(.var 1)]) [1] true (.var 0) [] [1])])))]⟩
def df_table_or_none : Df := ⟨["table"], 4, [(.set (.nm 1) (.call "in_tuples" [(.var 0)])), (.iff (.or (.nt (.isi (.var 1) ["tuple"])) (.or (.cmp .Gt (.bi .len [(.var 1)]) (.glb "MOST_SIZE" (.int 12))) (.nt (.bi .all [(.lc (.call "is_loose_row" [(.var 2)]) [2] true (.var 1) [] [2])])))) [(.ret (.cst .non))] []), (.iff (.and (.cmp .Gt (.bi .len [(.var 1)]) (.cst (.int 0))) (.or (.cmp .Gt (.bi .len [(.idx (.var 1) (.cst (.int 0)))]) (.glb "MOST_SIZE" (.int 12))) (.nt (.bi .all [(.lc (.cmp .Eq (.bi .len [(.var 2)]) (.bi .len [(.idx (.var 1) (.cst (.int 0)))])) [2] true (.var 1) [] [2])])))) [(.ret (.cst .non))] []), (.ret (.bi .tuple [(.lc (.bi .tuple [(.lc (.call "told" [(.var 3)]) [3] true (.var 2) [] [3])]) [2] true (.var 1) [] [2])]))]⟩
def df_table_from : Df := ⟨["table"], 2, [(.set (.nm 1) (.call "table_or_none" [(.var 0)])), (.iff (.cmp .Is (.var 1) (.cst .non)) [(.rse "BadTable" [(.var 0)])] []), (.ret (.var 1))]⟩
def df_two_from : Df := ⟨["one", "other"], 3, [(.set (.nm 2) (.call "table_from" [(.var 0)])), (.ret (.tup [(.var 2), (.call "table_from" [(.var 1)])]))]⟩
def df_width_of : Df := ⟨["table"], 1, [(.ret (.ite (.cmp .Gt (.bi .len [(.var 0)]) (.cst (.int 0))) (.bi .len [(.idx (.var 0) (.cst (.int 0)))]) (.cst (.int 0))))]⟩
def df_need_like : Df := ⟨["one", "other"], 2, [(.iff (.or (.cmp .NotEq (.bi .len [(.var 0)]) (.bi .len [(.var 1)])) (.cmp .NotEq (.call "width_of" [(.var 0)]) (.call "width_of" [(.var 1)]))) [(.rse "Unlike" [(.cst (.str "size"))])] [])]⟩
def df_is_square : Df := ⟨["table"], 1, [(.ret (.cmp .Eq (.bi .len [(.var 0)]) (.call "width_of" [(.var 0)])))]⟩
def df_square_from : Df := ⟨["table"], 2, [(.set (.nm 1) (.call "table_from" [(.var 0)])), (.iff (.nt (.call "is_square" [(.var 1)])) [(.rse "Unlike" [(.cst (.str "square"))])] []), (.ret (.var 1))]⟩
def df_ratio_from : Df := ⟨["what", "value"], 3, [(.set (.nm 2) (.call "in_tuples" [(.var 1)])), (.iff (.nt (.call "is_ratio" [(.var 2)])) [(.rse "BadNumber" [(.var 0), (.var 1)])] []), (.ret (.call "told" [(.var 2)]))]⟩
def df_row_plus : Df := ⟨["one", "by", "other"], 5, [(.iff (.cmp .Eq (.idx (.var 1) (.cst (.int 0))) (.cst (.int 0))) [(.ret (.bi .tuple [(.var 0)]))] []), (.ret (.bi .tuple [(.lc (.ite (.cmp .Eq (.idx (.var 4) (.cst (.int 0))) (.cst (.int 0))) (.var 3) (.call "summed" [(.var 3), (.call "scaled" [(.var 1), (.var 4)])])) [3, 4] false (.zip (.var 0) (.var 2)) [] [3, 4])]))]⟩
def df_sum_by : Df := ⟨["one", "other"], 4, [(.ret (.bi .tuple [(.lc (.call "row_plus" [(.var 2), (.glb "ONE" (.tup [(.int 1), (.int 1)])), (.var 3)]) [2, 3] false (.zip (.var 0) (.var 1)) [] [2, 3])]))]⟩
def df_less_by : Df := ⟨["one", "other"], 4, [(.ret (.bi .tuple [(.lc (.call "row_plus" [(.var 2), (.tup [(.neg (.cst (.int 1))), (.cst (.int 1))]), (.var 3)]) [2, 3] false (.zip (.var 0) (.var 1)) [] [2, 3])]))]⟩
def df_table_sum : Df := ⟨["one", "other"], 4, [(.setT [(.nm 2), (.nm 3)] (.call "two_from" [(.var 0), (.var 1)])), (.ex (.call "need_like" [(.var 2), (.var 3)])), (.ret (.call "sum_by" [(.var 2), (.var 3)]))]⟩
def df_table_less : Df := ⟨["one", "other"], 4, [(.setT [(.nm 2), (.nm 3)] (.call "two_from" [(.var 0), (.var 1)])), (.ex (.call "need_like" [(.var 2), (.var 3)])), (.ret (.call "less_by" [(.var 2), (.var 3)]))]⟩
def df_times_by : Df := ⟨["table", "by"], 4, [(.ret (.bi .tuple [(.lc (.bi .tuple [(.lc (.call "scaled" [(.var 3), (.var 1)]) [3] true (.var 2) [] [3])]) [2] true (.var 0) [] [2])]))]⟩
def df_table_times : Df := ⟨["table", "by"], 3, [(.set (.nm 2) (.call "table_from" [(.var 0)])), (.ret (.call "times_by" [(.var 2), (.call "ratio_from" [(.cst (.str "by")), (.var 1)])]))]⟩
def df_mixed_by : Df := ⟨["shares", "rows", "wide"], 6, [(.set (.nm 3) (.bin .Mult (.tup [(.glb "NONE" (.tup [(.int 0), (.int 1)]))]) (.var 2))), (.for_ [4, 5] false (.zip (.var 0) (.var 1)) [(.set (.nm 3) (.call "row_plus" [(.var 3), (.var 4), (.var 5)]))]), (.ret (.var 3))]⟩
def df_product_by : Df := ⟨["one", "other"], 3, [(.ret (.bi .tuple [(.lc (.call "mixed_by" [(.var 2), (.var 1), (.call "width_of" [(.var 1)])]) [2] true (.var 0) [] [2])]))]⟩
def df_table_product : Df := ⟨["one", "other"], 4, [(.setT [(.nm 2), (.nm 3)] (.call "two_from" [(.var 0), (.var 1)])), (.iff (.and (.cmp .Gt (.bi .len [(.var 2)]) (.cst (.int 0))) (.cmp .NotEq (.call "width_of" [(.var 2)]) (.bi .len [(.var 3)]))) [(.rse "Unlike" [(.cst (.str "size"))])] []), (.ret (.call "product_by" [(.var 2), (.var 3)]))]⟩
def df_turned_by : Df := ⟨["table"], 3, [(.ret (.bi .tuple [(.lc (.bi .tuple [(.lc (.idx (.var 2) (.var 1)) [2] true (.var 0) [] [2])]) [1] true (.rng (.call "width_of" [(.var 0)])) [] [1])]))]⟩
def df_turned_over : Df := ⟨["table"], 1, [(.ret (.call "turned_by" [(.call "table_from" [(.var 0)])]))]⟩
def df_unit_row : Df := ⟨["size", "place"], 3, [(.ret (.bi .tuple [(.lc (.ite (.cmp .Eq (.var 2) (.var 1)) (.glb "ONE" (.tup [(.int 1), (.int 1)])) (.glb "NONE" (.tup [(.int 0), (.int 1)]))) [2] true (.rng (.var 0)) [] [2])]))]⟩
def df_unit_by : Df := ⟨["size"], 2, [(.ret (.bi .tuple [(.lc (.call "unit_row" [(.var 0), (.var 1)]) [1] true (.rng (.var 0)) [] [1])]))]⟩
def df_unit_table : Df := ⟨["size"], 1, [(.ex (.call "need_between" [(.cst (.str "size")), (.var 0), (.cst (.int 0)), (.glb "MOST_SIZE" (.int 12))])), (.ret (.call "unit_by" [(.var 0)]))]⟩
def df_power_by : Df := ⟨["table", "many"], 4, [(.set (.nm 2) (.call "unit_by" [(.bi .len [(.var 0)])])), (.for_ [3] true (.rng (.var 1)) [(.set (.nm 2) (.call "product_by" [(.var 2), (.var 0)]))]), (.ret (.var 2))]⟩
def df_table_power : Df := ⟨["table", "many"], 3, [(.set (.nm 2) (.call "square_from" [(.var 0)])), (.ex (.call "need_between" [(.cst (.str "many")), (.var 1), (.cst (.int 0)), (.glb "MOST_SIZE" (.int 12))])), (.ret (.call "power_by" [(.var 2), (.var 1)]))]⟩
def df__law_pen : Df := ⟨["script"], 3, [(.set (.nm 1) (.cst (.int 0))), (.for_ [2] true (.var 0) [(.set (.nm 1) (.bin .Mod (.bi .int [(.bin .Add (.bin .Mult (.var 1) (.cst (.int 181))) (.var 2))]) (.cst (.int 999999163))))]), (.ret (.dic ["cells", "at", "digits", "count", "fold"] [(.bi .list [(.var 0)]), (.cst (.int 0)), (.cst (.int 0)), (.cst (.int 0)), (.var 1)]))]⟩
def df__law_draw : Df := ⟨["pen", "many"], 5, [(.set (.ky (.var 0) "count") (.bin .Add (.key (.var 0) "count") (.cst (.int 1)))), (.iff (.and (.cmp .Eq (.key (.var 0) "digits") (.cst (.int 0))) (.cmp .Lt (.key (.var 0) "at") (.bi .len [(.key (.var 0) "cells")]))) [(.set (.nm 2) (.idx (.key (.var 0) "cells") (.key (.var 0) "at"))), (.set (.ky (.var 0) "at") (.bin .Add (.key (.var 0) "at") (.cst (.int 1)))), (.iff (.cmp .GtE (.var 2) (.bin .Pow (.cst (.int 10)) (.cst (.int 18)))) [(.set (.ky (.var 0) "digits") (.bin .Sub (.var 2) (.bin .Pow (.cst (.int 10)) (.cst (.int 18)))))] [(.set (.ky (.var 0) "fold") (.bin .Mod (.bi .int [(.bin .Add (.bin .Mult (.key (.var 0) "fold") (.cst (.int 29009))) (.var 2))]) (.cst (.int 2147482937))))])] []), (.iff (.cmp .Gt (.key (.var 0) "digits") (.cst (.int 0))) [(.set (.nm 3) (.bin .Mod (.bi .int [(.key (.var 0) "digits")]) (.var 1))), (.set (.ky (.var 0) "digits") (.bin .FloorDiv (.key (.var 0) "digits") (.var 1))), (.ret (.var 3))] []), (.set (.nm 4) (.bin .Add (.bin .Add (.key (.var 0) "fold") (.bin .Mult (.key (.var 0) "count") (.cst (.int 6211)))) (.cst (.int 179)))), (.ret (.bin .Mod (.bin .FloorDiv (.bi .int [(.bin .Mod (.bin .Pow (.var 4) (.cst (.int 57))) (.cst (.int 2305843009213693951)))]) (.cst (.int 1024))) (.var 1)))]⟩
def df__law_pick : Df := ⟨["pen", "some"], 2, [(.ret (.idx (.var 1) (.call "_law_draw" [(.var 0), (.bi .len [(.var 1)])])))]⟩
def df__law_gcd : Df := ⟨["one", "two"], 3, [(.par [0, 1] [(.bi .abs [(.var 0)]), (.bi .abs [(.var 1)])]), (.for_ [2] true (.rng (.bin .Add (.cst (.int 4)) (.bin .Mult (.cst (.int 2)) (.bits (.bi .int [(.var 1)]))))) [(.iff (.cmp .Eq (.var 1) (.cst (.int 0))) [.brk] []), (.par [0, 1] [(.var 1), (.bin .Mod (.bi .int [(.var 0)]) (.var 1))])]), (.ret (.var 0))]⟩
def df__law_q : Df := ⟨["top", "bottom"], 3, [(.set (.nm 2) (.call "_law_gcd" [(.var 0), (.var 1)])), (.set (.nm 2) (.ite (.cmp .Lt (.var 1) (.cst (.int 0))) (.neg (.var 2)) (.var 2))), (.ret (.tup [(.bin .FloorDiv (.var 0) (.var 2)), (.bin .FloorDiv (.var 1) (.var 2))]))]⟩
def df__law_plus : Df := ⟨["one", "two"], 2, [(.ret (.call "_law_q" [(.bin .Add (.bin .Mult (.idx (.var 0) (.cst (.int 0))) (.idx (.var 1) (.cst (.int 1)))) (.bin .Mult (.idx (.var 1) (.cst (.int 0))) (.idx (.var 0) (.cst (.int 1))))), (.bin .Mult (.idx (.var 0) (.cst (.int 1))) (.idx (.var 1) (.cst (.int 1))))]))]⟩
def df__law_times : Df := ⟨["one", "two"], 2, [(.ret (.call "_law_q" [(.bin .Mult (.idx (.var 0) (.cst (.int 0))) (.idx (.var 1) (.cst (.int 0)))), (.bin .Mult (.idx (.var 0) (.cst (.int 1))) (.idx (.var 1) (.cst (.int 1))))]))]⟩
def df__law_handed : Df := ⟨["pen", "ratio"], 3, [(.iff (.and (.cmp .Eq (.idx (.var 1) (.cst (.int 1))) (.cst (.int 1))) (.cmp .Eq (.call "_law_draw" [(.var 0), (.cst (.int 2))]) (.cst (.int 0)))) [(.ret (.idx (.var 1) (.cst (.int 0))))] []), (.set (.nm 2) (.call "_law_pick" [(.var 0), (.lst [(.cst (.int 1)), (.cst (.int 1)), (.cst (.int 2)), (.cst (.int 5))])])), (.ret (.call "_law_pick" [(.var 0), (.lst [(.tup [(.bin .Mult (.idx (.var 1) (.cst (.int 0))) (.var 2)), (.bin .Mult (.idx (.var 1) (.cst (.int 1))) (.var 2))]), (.lst [(.bin .Mult (.idx (.var 1) (.cst (.int 0))) (.var 2)), (.bin .Mult (.idx (.var 1) (.cst (.int 1))) (.var 2))])])]))]⟩
def df__law_handed_row : Df := ⟨["pen", "row"], 4, [(.set (.nm 2) (.lc (.call "_law_handed" [(.var 0), (.var 3)]) [3] true (.var 1) [] [3])), (.ret (.call "_law_pick" [(.var 0), (.lst [(.bi .tuple [(.var 2)]), (.var 2)])]))]⟩
def df__law_passed : Df := ⟨["pen", "row"], 2, [(.ret (.call "_law_pick" [(.var 0), (.lst [(.bi .tuple [(.var 1)]), (.bi .list [(.var 1)])])]))]⟩
def df__law_ratio : Df := ⟨["pen", "most"], 2, [(.ret (.call "_law_q" [(.bin .Sub (.call "_law_draw" [(.var 0), (.bin .Add (.bin .Mult (.cst (.int 2)) (.var 1)) (.cst (.int 1)))]) (.var 1)), (.call "_law_pick" [(.var 0), (.lst [(.cst (.int 1)), (.cst (.int 1)), (.cst (.int 1)), (.cst (.int 2)), (.cst (.int 3))])])]))]⟩
def df__law_sum : Df := ⟨["items"], 3, [(.set (.nm 1) (.tup [(.cst (.int 0)), (.cst (.int 1))])), (.for_ [2] true (.var 0) [(.set (.nm 1) (.call "_law_plus" [(.var 1), (.var 2)]))]), (.ret (.var 1))]⟩
def df__law_zeros : Df := ⟨["many"], 1, [(.ret (.bi .tuple [(.bin .Mult (.lst [(.tup [(.cst (.int 0)), (.cst (.int 1))])]) (.var 0))]))]⟩
def df__law_row_table : Df := ⟨["row", "table", "wide"], 6, [(.ret (.bi .tuple [(.lc (.call "_law_sum" [(.lc (.call "_law_times" [(.var 4), (.idx (.var 5) (.var 3))]) [4, 5] false (.zip (.var 0) (.var 1)) [] [4, 5])]) [3] true (.rng (.var 2)) [] [3])]))]⟩
def df__law_add : Df := ⟨["one", "other"], 4, [(.ret (.bi .tuple [(.lc (.call "_law_plus" [(.var 2), (.var 3)]) [2, 3] false (.zip (.var 0) (.var 1)) [] [2, 3])]))]⟩
def df__law_scaled : Df := ⟨["row", "by"], 3, [(.ret (.bi .tuple [(.lc (.call "_law_times" [(.var 2), (.var 1)]) [2] true (.var 0) [] [2])]))]⟩
def df__law_product : Df := ⟨["one", "other", "wide"], 4, [(.ret (.bi .tuple [(.lc (.call "_law_row_table" [(.var 3), (.var 1), (.var 2)]) [3] true (.var 0) [] [3])]))]⟩
def df__law_table_sum : Df := ⟨["one", "other"], 4, [(.ret (.bi .tuple [(.lc (.call "_law_add" [(.var 2), (.var 3)]) [2, 3] false (.zip (.var 0) (.var 1)) [] [2, 3])]))]⟩
def df__law_turned : Df := ⟨["table", "wide"], 4, [(.ret (.bi .tuple [(.lc (.bi .tuple [(.lc (.idx (.var 3) (.var 2)) [3] true (.var 0) [] [3])]) [2] true (.rng (.var 1)) [] [2])]))]⟩
def df__law_unit : Df := ⟨["size"], 3, [(.ret (.bi .tuple [(.lc (.bi .tuple [(.lc (.tup [(.bi .int [(.cmp .Eq (.var 1) (.var 2))]), (.cst (.int 1))]) [2] true (.rng (.var 0)) [] [2])]) [1] true (.rng (.var 0)) [] [1])]))]⟩
def df__law_table_fault : Df := ⟨["action"], 2, [(.try_ [(.ex (.callv0 0)), (.ret (.cst .non))] [("BadNumber", 1, [.inl "number", .inr "what", .inr "number"]), ("BadRow", 1, [.inl "row", .inr "row"]), ("BadTable", 1, [.inl "table", .inr "table"]), ("Unlike", 1, [.inl "unlike", .inr "what"])])]⟩
def df__law_tables_due : Df := ⟨["tries"], 3, [(.ret (.bi .all [(.lc (.cmp .Eq (.bi .repr [(.call "_law_table_fault" [(.var 1)])]) (.bi .repr [(.var 2)])) [1, 2] false (.var 0) [] [1, 2])]))]⟩
def df__law_some_table : Df := ⟨["pen", "tall", "wide"], 10, [(.set (.nm 3) (.lst [])), (.for_ [4] true (.rng (.var 1)) [(.iff (.and (.cmp .NotEq (.var 3) (.lst [])) (.cmp .Eq (.call "_law_draw" [(.var 0), (.cst (.int 5))]) (.cst (.int 0)))) [(.par [5, 6] [(.lc (.call "_law_ratio" [(.var 0), (.cst (.int 2))]) [8] true (.var 3) [] [8]), (.call "_law_zeros" [(.var 2)])]), (.for_ [7, 8] false (.zip (.var 5) (.var 3)) [(.set (.nm 6) (.call "_law_add" [(.var 6), (.call "_law_scaled" [(.var 8), (.var 7)])]))]), (.ex (.app 3 (.var 6)))] [(.ex (.app 3 (.bi .tuple [(.lc (.ite (.cmp .Gt (.call "_law_draw" [(.var 0), (.cst (.int 4))]) (.cst (.int 0))) (.call "_law_ratio" [(.var 0), (.cst (.int 2))]) (.tup [(.cst (.int 0)), (.cst (.int 1))])) [9] true (.rng (.var 2)) [] [9])])))])]), (.ret (.bi .tuple [(.var 3)]))]⟩
def df__law_handed_table : Df := ⟨["pen", "rows"], 3, [(.ret (.call "_law_passed" [(.var 0), (.lc (.call "_law_handed_row" [(.var 0), (.var 2)]) [2] true (.var 1) [] [2])]))]⟩
def df__law_bad_table : Df := ⟨["pen"], 1, [(.ret (.call "_law_pick" [(.var 0), (.lst [(.cst .non), (.cst (.int 5)), (.cst (.str "12")), (.tup [(.cst (.int 1))]), (.tup [(.tup [(.cst (.int 1))]), (.tup [(.cst (.int 1)), (.cst (.int 2))])]), (.tup [(.tup [(.cst (.str "1"))])]), (.tup [(.tup [(.cst (.bl true))])]), (.tup [(.tup [(.tup [(.cst (.int 1)), (.cst (.int 0))])])]), (.tup [(.tup [(.cst (.int 1))]), (.cst .non)]), (.tup [(.tup [(.tup [(.cst (.int 1)), (.cst (.int 2)), (.cst (.int 3))])])]), (.bin .Mult (.tup [(.tup [(.cst (.int 1))])]) (.cst (.int 13))), (.tup [(.bin .Mult (.tup [(.cst (.int 0))]) (.cst (.int 13)))])])]))]⟩
def df__law_wide : Df := ⟨["table"], 1, [(.ret (.ite (.cmp .NotEq (.var 0) (.tup [])) (.bi .len [(.idx (.var 0) (.cst (.int 0)))]) (.cst (.int 0))))]⟩
def lm_0 : Lm := ⟨27, [21, 16], (.callv (.var 21) [(.var 16), (.var 16)])⟩
def lm_1 : Lm := ⟨27, [21, 19, 16], (.callv (.var 21) [(.var 19), (.var 16)])⟩
def lm_2 : Lm := ⟨27, [21, 19, 20], (.callv (.var 21) [(.var 19), (.var 20)])⟩
def lm_3 : Lm := ⟨27, [16], (.call "table_product" [(.var 16), (.var 16)])⟩
def lm_4 : Lm := ⟨27, [19, 16], (.call "table_product" [(.var 19), (.var 16)])⟩
def lm_5 : Lm := ⟨27, [19, 23], (.call "table_product" [(.var 19), (.var 23)])⟩
def lm_6 : Lm := ⟨27, [16, 17], (.call "table_times" [(.var 16), (.var 17)])⟩
def lm_7 : Lm := ⟨27, [19, 17], (.call "table_times" [(.var 19), (.var 17)])⟩
def lm_8 : Lm := ⟨27, [16], (.call "turned_over" [(.var 16)])⟩
def lm_9 : Lm := ⟨27, [18], (.call "unit_table" [(.var 18)])⟩
def lm_10 : Lm := ⟨27, [16, 18], (.call "table_power" [(.var 16), (.var 18)])⟩
def lm_11 : Lm := ⟨27, [19, 18], (.call "table_power" [(.var 19), (.var 18)])⟩
def lm_12 : Lm := ⟨27, [18], (.call "table_power" [(.tup [(.tup [(.cst (.int 1))])]), (.var 18)])⟩
def js_law : List J := [(.set (.nm 1) (.call "_law_pen" [(.var 0)])), (.for_ [2] true (.rng (.cst (.int 3))) [(.setT [(.nm 3), (.nm 4), (.nm 5)] (.lc (.call "_law_draw" [(.var 1), (.cst (.int 4))]) [15] true (.rng (.cst (.int 3))) [] [15])), (.par [6, 7, 8] [(.call "_law_some_table" [(.var 1), (.var 3), (.var 4)]), (.call "_law_some_table" [(.var 1), (.var 3), (.var 4)]), (.call "_law_some_table" [(.var 1), (.var 4), (.var 5)])]), (.set (.nm 9) (.call "_law_ratio" [(.var 1), (.cst (.int 3))])), (.iff (.cmp .NotEq (.bi .repr [(.call "table_sum" [(.call "_law_handed_table" [(.var 1), (.var 6)]), (.call "_law_handed_table" [(.var 1), (.var 7)])])]) (.bi .repr [(.call "_law_table_sum" [(.var 6), (.var 7)])])) [(.ret (.cst (.bl false)))] []), (.iff (.cmp .NotEq (.bi .repr [(.call "table_less" [(.call "_law_handed_table" [(.var 1), (.var 6)]), (.call "_law_handed_table" [(.var 1), (.var 7)])])]) (.bi .repr [(.bi .tuple [(.lc (.call "_law_add" [(.var 24), (.call "_law_scaled" [(.var 25), (.tup [(.neg (.cst (.int 1))), (.cst (.int 1))])])]) [24, 25] false (.zip (.var 6) (.var 7)) [] [24, 25])])])) [(.ret (.cst (.bl false)))] []), (.iff (.cmp .NotEq (.bi .repr [(.call "table_times" [(.call "_law_handed_table" [(.var 1), (.var 6)]), (.call "_law_handed" [(.var 1), (.var 9)])])]) (.bi .repr [(.bi .tuple [(.lc (.call "_law_scaled" [(.var 26), (.var 9)]) [26] true (.var 6) [] [26])])])) [(.ret (.cst (.bl false)))] []), (.set (.nm 10) (.call "table_product" [(.call "_law_handed_table" [(.var 1), (.var 6)]), (.call "_law_handed_table" [(.var 1), (.var 8)])])), (.iff (.cmp .NotEq (.bi .repr [(.var 10)]) (.bi .repr [(.call "_law_product" [(.var 6), (.var 8), (.call "_law_wide" [(.var 8)])])])) [(.ret (.cst (.bl false)))] []), (.iff (.cmp .NotEq (.bi .repr [(.call "turned_over" [(.call "_law_handed_table" [(.var 1), (.var 6)])])]) (.bi .repr [(.call "_law_turned" [(.var 6), (.call "_law_wide" [(.var 6)])])])) [(.ret (.cst (.bl false)))] []), (.iff (.and (.cmp .Gt (.var 3) (.cst (.int 0))) (.and (.cmp .Gt (.var 4) (.cst (.int 0))) (.and (.cmp .Gt (.var 5) (.cst (.int 0))) (.cmp .NotEq (.call "turned_over" [(.var 10)]) (.call "table_product" [(.call "turned_over" [(.var 8)]), (.call "turned_over" [(.var 6)])]))))) [(.ret (.cst (.bl false)))] []), (.par [11, 12] [(.call "_law_some_table" [(.var 1), (.var 3), (.var 3)]), (.var 3)]), (.iff (.or (.cmp .NotEq (.bi .repr [(.call "unit_table" [(.var 12)])]) (.bi .repr [(.call "_law_unit" [(.var 12)])])) (.cmp .NotEq (.call "table_product" [(.call "unit_table" [(.var 12)]), (.var 11)]) (.var 11))) [(.ret (.cst (.bl false)))] []), (.par [13, 14] [(.call "_law_draw" [(.var 1), (.cst (.int 5))]), (.call "_law_unit" [(.var 12)])]), (.for_ [15] true (.rng (.var 13)) [(.set (.nm 14) (.call "_law_product" [(.var 14), (.var 11), (.var 12)]))]), (.iff (.or (.cmp .NotEq (.bi .repr [(.call "table_power" [(.call "_law_handed_table" [(.var 1), (.var 11)]), (.var 13)])]) (.bi .repr [(.var 14)])) (.cmp .NotEq (.call "table_product" [(.call "table_power" [(.var 11), (.var 13)]), (.var 11)]) (.call "table_power" [(.var 11), (.bin .Add (.var 13) (.cst (.int 1)))]))) [(.ret (.cst (.bl false)))] []), (.iff (.cmp .NotEq (.call "table_sum" [(.call "table_product" [(.var 11), (.var 6)]), (.call "table_product" [(.var 11), (.var 7)])]) (.call "table_product" [(.var 11), (.call "table_sum" [(.var 6), (.var 7)])])) [(.ret (.cst (.bl false)))] [])]), (.setT [(.nm 16), (.nm 17), (.nm 18)] (.tup [(.call "_law_bad_table" [(.var 1)]), (.call "_law_pick" [(.var 1), (.lst [(.cst .non), (.cst (.str "1")), (.tup [(.cst (.int 1)), (.cst (.int 0))]), (.tup [(.cst (.int 1))]), (.cst (.bl true))])]), (.call "_law_pick" [(.var 1), (.lst [(.neg (.cst (.int 1))), (.cst (.int 13)), (.cst .non), (.cst (.bl true)), (.cst (.str "2"))])])])), (.setT [(.nm 19), (.nm 20)] (.tup [(.tup [(.tup [(.cst (.int 1)), (.cst (.int 2))])]), (.call "_law_pick" [(.var 1), (.lst [(.tup [(.tup [(.cst (.int 1))])]), (.tup [(.tup [(.cst (.int 1)), (.cst (.int 2))]), (.tup [(.cst (.int 3)), (.cst (.int 4))])]), (.tup []), (.tup [(.tup [(.cst (.int 1)), (.cst (.int 2)), (.cst (.int 3))])])])])])), (.for_ [21] true (.tup [(.glb "table_sum" (.fn "table_sum")), (.glb "table_less" (.fn "table_less"))]) [(.set (.nm 22) (.lst [(.tup [(.lam "<lambda>0"), (.tup [(.cst (.str "table")), (.var 16)])])])), (.ex (.app 22 (.tup [(.lam "<lambda>1"), (.tup [(.cst (.str "table")), (.var 16)])]))), (.ex (.app 22 (.tup [(.lam "<lambda>2"), (.tup [(.cst (.str "unlike")), (.cst (.str "size"))])]))), (.iff (.nt (.callc "_law_tables_due" [(.var 22)] caps)) [(.ret (.cst (.bl false)))] [])]), (.set (.nm 23) (.call "_law_pick" [(.var 1), (.lst [(.tup [(.tup [(.cst (.int 1))])]), (.tup []), (.bin .Mult (.tup [(.tup [(.cst (.int 1)), (.cst (.int 2))])]) (.cst (.int 3)))])])), (.set (.nm 22) (.lst [(.tup [(.lam "<lambda>3"), (.tup [(.cst (.str "table")), (.var 16)])])])), (.ex (.app 22 (.tup [(.lam "<lambda>4"), (.tup [(.cst (.str "table")), (.var 16)])]))), (.ex (.app 22 (.tup [(.lam "<lambda>5"), (.tup [(.cst (.str "unlike")), (.cst (.str "size"))])]))), (.ex (.app 22 (.tup [(.lam "<lambda>6"), (.tup [(.cst (.str "table")), (.var 16)])]))), (.ex (.app 22 (.tup [(.lam "<lambda>7"), (.tup [(.cst (.str "number")), (.cst (.str "by")), (.var 17)])]))), (.ex (.app 22 (.tup [(.lam "<lambda>8"), (.tup [(.cst (.str "table")), (.var 16)])]))), (.ex (.app 22 (.tup [(.lam "<lambda>9"), (.tup [(.cst (.str "number")), (.cst (.str "size")), (.var 18)])]))), (.ex (.app 22 (.tup [(.lam "<lambda>10"), (.tup [(.cst (.str "table")), (.var 16)])]))), (.ex (.app 22 (.tup [(.lam "<lambda>11"), (.tup [(.cst (.str "unlike")), (.cst (.str "square"))])]))), (.ex (.app 22 (.tup [(.lam "<lambda>12"), (.tup [(.cst (.str "number")), (.cst (.str "many")), (.var 18)])]))), (.ret (.callc "_law_tables_due" [(.var 22)] caps))]
def PP : Prg where
  defs := ([("is_whole", df_is_whole), ("in_tuples", df_in_tuples), ("need_between", df_need_between), ("is_pair", df_is_pair), ("is_ratio", df_is_ratio), ("lowest", df_lowest), ("told", df_told), ("summed", df_summed), ("scaled", df_scaled), ("is_loose_row", df_is_loose_row), ("table_or_none", df_table_or_none), ("table_from", df_table_from)] : List (Str × Df)) ++ ([("two_from", df_two_from), ("width_of", df_width_of), ("need_like", df_need_like), ("is_square", df_is_square), ("square_from", df_square_from), ("ratio_from", df_ratio_from), ("row_plus", df_row_plus), ("sum_by", df_sum_by), ("less_by", df_less_by), ("table_sum", df_table_sum), ("table_less", df_table_less), ("times_by", df_times_by)] : List (Str × Df)) ++ ([("table_times", df_table_times), ("mixed_by", df_mixed_by), ("product_by", df_product_by), ("table_product", df_table_product), ("turned_by", df_turned_by), ("turned_over", df_turned_over), ("unit_row", df_unit_row), ("unit_by", df_unit_by), ("unit_table", df_unit_table), ("power_by", df_power_by), ("table_power", df_table_power), ("_law_pen", df__law_pen)] : List (Str × Df)) ++ ([("_law_draw", df__law_draw), ("_law_pick", df__law_pick), ("_law_gcd", df__law_gcd), ("_law_q", df__law_q), ("_law_plus", df__law_plus), ("_law_times", df__law_times), ("_law_handed", df__law_handed), ("_law_handed_row", df__law_handed_row), ("_law_passed", df__law_passed), ("_law_ratio", df__law_ratio), ("_law_sum", df__law_sum), ("_law_zeros", df__law_zeros)] : List (Str × Df)) ++ ([("_law_row_table", df__law_row_table), ("_law_add", df__law_add), ("_law_scaled", df__law_scaled), ("_law_product", df__law_product), ("_law_table_sum", df__law_table_sum), ("_law_turned", df__law_turned), ("_law_unit", df__law_unit), ("_law_table_fault", df__law_table_fault), ("_law_tables_due", df__law_tables_due), ("_law_some_table", df__law_some_table), ("_law_handed_table", df__law_handed_table), ("_law_bad_table", df__law_bad_table)] : List (Str × Df)) ++ ([("_law_wide", df__law_wide)] : List (Str × Df))
  lams := ([("<lambda>0", lm_0), ("<lambda>1", lm_1), ("<lambda>2", lm_2), ("<lambda>3", lm_3), ("<lambda>4", lm_4), ("<lambda>5", lm_5), ("<lambda>6", lm_6), ("<lambda>7", lm_7), ("<lambda>8", lm_8), ("<lambda>9", lm_9), ("<lambda>10", lm_10), ("<lambda>11", lm_11)] : List (Str × Lm)) ++ ([("<lambda>12", lm_12)] : List (Str × Lm))
  excs := ([("BadNumber", ["what", "number"]), ("BadRow", ["row"]), ("BadTable", ["table"]), ("Unlike", ["what"])] : List (Str × List Str))
  free := (["abs", "all", "bool", "int", "isinstance", "len", "list", "range", "repr", "tuple", "zip"] : List (Str))
  glbs := ([("MOST_SIZE", (.int 12)), ("NONE", (.tup [(.int 0), (.int 1)])), ("ONE", (.tup [(.int 1), (.int 1)])), ("table_less", (.fn "table_less")), ("table_sum", (.fn "table_sum"))] : List (Str × D))
  bfn := ([("gcd", "math.gcd")] : List (Str × String))
  wf := 1000000
  af := 60
theorem lk_is_whole : PP.defs.lookup ("is_whole" : Str) = some df_is_whole := rfl
theorem lk_in_tuples : PP.defs.lookup ("in_tuples" : Str) = some df_in_tuples := rfl
theorem lk_need_between : PP.defs.lookup ("need_between" : Str) = some df_need_between := rfl
theorem lk_is_pair : PP.defs.lookup ("is_pair" : Str) = some df_is_pair := rfl
theorem lk_is_ratio : PP.defs.lookup ("is_ratio" : Str) = some df_is_ratio := rfl
theorem lk_lowest : PP.defs.lookup ("lowest" : Str) = some df_lowest := rfl
theorem lk_told : PP.defs.lookup ("told" : Str) = some df_told := rfl
theorem lk_summed : PP.defs.lookup ("summed" : Str) = some df_summed := rfl
theorem lk_scaled : PP.defs.lookup ("scaled" : Str) = some df_scaled := rfl
theorem lk_is_loose_row : PP.defs.lookup ("is_loose_row" : Str) = some df_is_loose_row := rfl
theorem lk_table_or_none : PP.defs.lookup ("table_or_none" : Str) = some df_table_or_none := rfl
theorem lk_table_from : PP.defs.lookup ("table_from" : Str) = some df_table_from := rfl
theorem lk_two_from : PP.defs.lookup ("two_from" : Str) = some df_two_from := rfl
theorem lk_width_of : PP.defs.lookup ("width_of" : Str) = some df_width_of := rfl
theorem lk_need_like : PP.defs.lookup ("need_like" : Str) = some df_need_like := rfl
theorem lk_is_square : PP.defs.lookup ("is_square" : Str) = some df_is_square := rfl
theorem lk_square_from : PP.defs.lookup ("square_from" : Str) = some df_square_from := rfl
theorem lk_ratio_from : PP.defs.lookup ("ratio_from" : Str) = some df_ratio_from := rfl
theorem lk_row_plus : PP.defs.lookup ("row_plus" : Str) = some df_row_plus := rfl
theorem lk_sum_by : PP.defs.lookup ("sum_by" : Str) = some df_sum_by := rfl
theorem lk_less_by : PP.defs.lookup ("less_by" : Str) = some df_less_by := rfl
theorem lk_table_sum : PP.defs.lookup ("table_sum" : Str) = some df_table_sum := rfl
theorem lk_table_less : PP.defs.lookup ("table_less" : Str) = some df_table_less := rfl
theorem lk_times_by : PP.defs.lookup ("times_by" : Str) = some df_times_by := rfl
theorem lk_table_times : PP.defs.lookup ("table_times" : Str) = some df_table_times := rfl
theorem lk_mixed_by : PP.defs.lookup ("mixed_by" : Str) = some df_mixed_by := rfl
theorem lk_product_by : PP.defs.lookup ("product_by" : Str) = some df_product_by := rfl
theorem lk_table_product : PP.defs.lookup ("table_product" : Str) = some df_table_product := rfl
theorem lk_turned_by : PP.defs.lookup ("turned_by" : Str) = some df_turned_by := rfl
theorem lk_turned_over : PP.defs.lookup ("turned_over" : Str) = some df_turned_over := rfl
theorem lk_unit_row : PP.defs.lookup ("unit_row" : Str) = some df_unit_row := rfl
theorem lk_unit_by : PP.defs.lookup ("unit_by" : Str) = some df_unit_by := rfl
theorem lk_unit_table : PP.defs.lookup ("unit_table" : Str) = some df_unit_table := rfl
theorem lk_power_by : PP.defs.lookup ("power_by" : Str) = some df_power_by := rfl
theorem lk_table_power : PP.defs.lookup ("table_power" : Str) = some df_table_power := rfl
theorem lk__law_pen : PP.defs.lookup ("_law_pen" : Str) = some df__law_pen := rfl
theorem lk__law_draw : PP.defs.lookup ("_law_draw" : Str) = some df__law_draw := rfl
theorem lk__law_pick : PP.defs.lookup ("_law_pick" : Str) = some df__law_pick := rfl
theorem lk__law_gcd : PP.defs.lookup ("_law_gcd" : Str) = some df__law_gcd := rfl
theorem lk__law_q : PP.defs.lookup ("_law_q" : Str) = some df__law_q := rfl
theorem lk__law_plus : PP.defs.lookup ("_law_plus" : Str) = some df__law_plus := rfl
theorem lk__law_times : PP.defs.lookup ("_law_times" : Str) = some df__law_times := rfl
theorem lk__law_handed : PP.defs.lookup ("_law_handed" : Str) = some df__law_handed := rfl
theorem lk__law_handed_row : PP.defs.lookup ("_law_handed_row" : Str) = some df__law_handed_row := rfl
theorem lk__law_passed : PP.defs.lookup ("_law_passed" : Str) = some df__law_passed := rfl
theorem lk__law_ratio : PP.defs.lookup ("_law_ratio" : Str) = some df__law_ratio := rfl
theorem lk__law_sum : PP.defs.lookup ("_law_sum" : Str) = some df__law_sum := rfl
theorem lk__law_zeros : PP.defs.lookup ("_law_zeros" : Str) = some df__law_zeros := rfl
theorem lk__law_row_table : PP.defs.lookup ("_law_row_table" : Str) = some df__law_row_table := rfl
theorem lk__law_add : PP.defs.lookup ("_law_add" : Str) = some df__law_add := rfl
theorem lk__law_scaled : PP.defs.lookup ("_law_scaled" : Str) = some df__law_scaled := rfl
theorem lk__law_product : PP.defs.lookup ("_law_product" : Str) = some df__law_product := rfl
theorem lk__law_table_sum : PP.defs.lookup ("_law_table_sum" : Str) = some df__law_table_sum := rfl
theorem lk__law_turned : PP.defs.lookup ("_law_turned" : Str) = some df__law_turned := rfl
theorem lk__law_unit : PP.defs.lookup ("_law_unit" : Str) = some df__law_unit := rfl
theorem lk__law_table_fault : PP.defs.lookup ("_law_table_fault" : Str) = some df__law_table_fault := rfl
theorem lk__law_tables_due : PP.defs.lookup ("_law_tables_due" : Str) = some df__law_tables_due := rfl
theorem lk__law_some_table : PP.defs.lookup ("_law_some_table" : Str) = some df__law_some_table := rfl
theorem lk__law_handed_table : PP.defs.lookup ("_law_handed_table" : Str) = some df__law_handed_table := rfl
theorem lk__law_bad_table : PP.defs.lookup ("_law_bad_table" : Str) = some df__law_bad_table := rfl
theorem lk__law_wide : PP.defs.lookup ("_law_wide" : Str) = some df__law_wide := rfl
theorem fr_abs : PP.free.contains ("abs" : Str) = true := rfl
theorem fr_all : PP.free.contains ("all" : Str) = true := rfl
theorem fr_bool : PP.free.contains ("bool" : Str) = true := rfl
theorem fr_int : PP.free.contains ("int" : Str) = true := rfl
theorem fr_isinstance : PP.free.contains ("isinstance" : Str) = true := rfl
theorem fr_len : PP.free.contains ("len" : Str) = true := rfl
theorem fr_list : PP.free.contains ("list" : Str) = true := rfl
theorem fr_range : PP.free.contains ("range" : Str) = true := rfl
theorem fr_repr : PP.free.contains ("repr" : Str) = true := rfl
theorem fr_tuple : PP.free.contains ("tuple" : Str) = true := rfl
theorem fr_zip : PP.free.contains ("zip" : Str) = true := rfl
theorem gl_MOST_SIZE : PP.glbs.lookup ("MOST_SIZE" : Str) = some (.int 12) := rfl
theorem gl_NONE : PP.glbs.lookup ("NONE" : Str) = some (.tup [(.int 0), (.int 1)]) := rfl
theorem gl_ONE : PP.glbs.lookup ("ONE" : Str) = some (.tup [(.int 1), (.int 1)]) := rfl
theorem gl_table_less : PP.glbs.lookup ("table_less" : Str) = some (.fn "table_less") := rfl
theorem gl_table_sum : PP.glbs.lookup ("table_sum" : Str) = some (.fn "table_sum") := rfl
theorem bf_gcd : PP.bfn.lookup ("gcd" : Str) = some "math.gcd" := rfl
theorem ex_BadNumber : PP.excs.lookup ("BadNumber" : Str) = some (["what", "number"] : List Str) := rfl
theorem ex_BadRow : PP.excs.lookup ("BadRow" : Str) = some (["row"] : List Str) := rfl
theorem ex_BadTable : PP.excs.lookup ("BadTable" : Str) = some (["table"] : List Str) := rfl
theorem ex_Unlike : PP.excs.lookup ("Unlike" : Str) = some (["what"] : List Str) := rfl
/-! ### each def -/
def top (i : Nat) : Stmt := PySem.Challenge.pw_steerpapers_k12_tables_added_and_multipl.main.body.getD i (.Pass ⟨0, 0, 0, 0⟩)
abbrev st_is_whole : Stmt := top 8
abbrev N_is_whole : List Str := ["value"]
abbrev st_in_tuples : Stmt := top 9
abbrev N_in_tuples : List Str := ["value", "item"]
abbrev st_need_between : Stmt := top 10
abbrev N_need_between : List Str := ["what", "number", "low", "high"]
abbrev st_is_pair : Stmt := top 12
abbrev N_is_pair : List Str := ["value"]
abbrev st_is_ratio : Stmt := top 13
abbrev N_is_ratio : List Str := ["value"]
abbrev st_lowest : Stmt := top 14
abbrev N_lowest : List Str := ["top", "bottom", "by"]
abbrev st_told : Stmt := top 15
abbrev N_told : List Str := ["ratio"]
abbrev st_summed : Stmt := top 16
abbrev N_summed : List Str := ["one", "other"]
abbrev st_scaled : Stmt := top 17
abbrev N_scaled : List Str := ["one", "other"]
abbrev st_is_loose_row : Stmt := top 22
abbrev N_is_loose_row : List Str := ["value", "item"]
abbrev st_table_or_none : Stmt := top 23
abbrev N_table_or_none : List Str := ["table", "made", "row", "item"]
abbrev st_table_from : Stmt := top 24
abbrev N_table_from : List Str := ["table", "made"]
abbrev st_two_from : Stmt := top 25
abbrev N_two_from : List Str := ["one", "other", "first"]
abbrev st_width_of : Stmt := top 26
abbrev N_width_of : List Str := ["table"]
abbrev st_need_like : Stmt := top 27
abbrev N_need_like : List Str := ["one", "other"]
abbrev st_is_square : Stmt := top 28
abbrev N_is_square : List Str := ["table"]
abbrev st_square_from : Stmt := top 29
abbrev N_square_from : List Str := ["table", "made"]
abbrev st_ratio_from : Stmt := top 30
abbrev N_ratio_from : List Str := ["what", "value", "made"]
abbrev st_row_plus : Stmt := top 31
abbrev N_row_plus : List Str := ["one", "by", "other", "a", "b"]
abbrev st_sum_by : Stmt := top 32
abbrev N_sum_by : List Str := ["one", "other", "a", "b"]
abbrev st_less_by : Stmt := top 33
abbrev N_less_by : List Str := ["one", "other", "a", "b"]
abbrev st_table_sum : Stmt := top 34
abbrev N_table_sum : List Str := ["one", "other", "first", "second"]
abbrev st_table_less : Stmt := top 35
abbrev N_table_less : List Str := ["one", "other", "first", "second"]
abbrev st_times_by : Stmt := top 36
abbrev N_times_by : List Str := ["table", "by", "row", "item"]
abbrev st_table_times : Stmt := top 37
abbrev N_table_times : List Str := ["table", "by", "made"]
abbrev st_mixed_by : Stmt := top 38
abbrev N_mixed_by : List Str := ["shares", "rows", "wide", "out", "share", "row"]
abbrev st_product_by : Stmt := top 39
abbrev N_product_by : List Str := ["one", "other", "row"]
abbrev st_table_product : Stmt := top 40
abbrev N_table_product : List Str := ["one", "other", "first", "second"]
abbrev st_turned_by : Stmt := top 41
abbrev N_turned_by : List Str := ["table", "place", "row"]
abbrev st_turned_over : Stmt := top 42
abbrev N_turned_over : List Str := ["table"]
abbrev st_unit_row : Stmt := top 43
abbrev N_unit_row : List Str := ["size", "place", "n"]
abbrev st_unit_by : Stmt := top 44
abbrev N_unit_by : List Str := ["size", "place"]
abbrev st_unit_table : Stmt := top 45
abbrev N_unit_table : List Str := ["size"]
abbrev st_power_by : Stmt := top 46
abbrev N_power_by : List Str := ["table", "many", "out", "lap"]
abbrev st_table_power : Stmt := top 47
abbrev N_table_power : List Str := ["table", "many", "made"]
abbrev st__law_pen : Stmt := top 49
abbrev N__law_pen : List Str := ["script", "fold", "cell"]
abbrev st__law_draw : Stmt := top 50
abbrev N__law_draw : List Str := ["pen", "many", "cell", "digit", "blend"]
abbrev st__law_pick : Stmt := top 51
abbrev N__law_pick : List Str := ["pen", "some"]
abbrev st__law_gcd : Stmt := top 52
abbrev N__law_gcd : List Str := ["one", "two", "lap"]
abbrev st__law_q : Stmt := top 53
abbrev N__law_q : List Str := ["top", "bottom", "by"]
abbrev st__law_plus : Stmt := top 54
abbrev N__law_plus : List Str := ["one", "two"]
abbrev st__law_times : Stmt := top 55
abbrev N__law_times : List Str := ["one", "two"]
abbrev st__law_handed : Stmt := top 56
abbrev N__law_handed : List Str := ["pen", "ratio", "by"]
abbrev st__law_handed_row : Stmt := top 57
abbrev N__law_handed_row : List Str := ["pen", "row", "found", "item"]
abbrev st__law_passed : Stmt := top 58
abbrev N__law_passed : List Str := ["pen", "row"]
abbrev st__law_ratio : Stmt := top 59
abbrev N__law_ratio : List Str := ["pen", "most"]
abbrev st__law_sum : Stmt := top 60
abbrev N__law_sum : List Str := ["items", "found", "item"]
abbrev st__law_zeros : Stmt := top 61
abbrev N__law_zeros : List Str := ["many"]
abbrev st__law_row_table : Stmt := top 62
abbrev N__law_row_table : List Str := ["row", "table", "wide", "k", "item", "line"]
abbrev st__law_add : Stmt := top 63
abbrev N__law_add : List Str := ["one", "other", "a", "b"]
abbrev st__law_scaled : Stmt := top 64
abbrev N__law_scaled : List Str := ["row", "by", "item"]
abbrev st__law_product : Stmt := top 65
abbrev N__law_product : List Str := ["one", "other", "wide", "line"]
abbrev st__law_table_sum : Stmt := top 66
abbrev N__law_table_sum : List Str := ["one", "other", "a", "b"]
abbrev st__law_turned : Stmt := top 67
abbrev N__law_turned : List Str := ["table", "wide", "k", "line"]
abbrev st__law_unit : Stmt := top 68
abbrev N__law_unit : List Str := ["size", "i", "j"]
abbrev st__law_table_fault : Stmt := top 69
abbrev N__law_table_fault : List Str := ["action", "error"]
abbrev st__law_tables_due : Stmt := top 70
abbrev N__law_tables_due : List Str := ["tries", "action", "due"]
abbrev st__law_some_table : Stmt := top 71
abbrev N__law_some_table : List Str := ["pen", "tall", "wide", "rows", "k", "by", "row", "item", "one", "n"]
abbrev st__law_handed_table : Stmt := top 72
abbrev N__law_handed_table : List Str := ["pen", "rows", "row"]
abbrev st__law_bad_table : Stmt := top 73
abbrev N__law_bad_table : List Str := ["pen"]
abbrev st__law_wide : Stmt := top 74
abbrev N__law_wide : List Str := ["table"]
abbrev st_law : Stmt := top 75
abbrev N_law : List Str := ["script", "pen", "lap", "tall", "wide", "deep", "one", "two", "other", "by", "made", "square", "size", "many", "due", "k", "bad", "odd", "far", "flat", "wider", "work", "tries", "long", "a", "b", "row"]
/-! ### the head: facts by names, the run -/
abbrev R : PySem.W.OpenRow := PySem.W.OpenLaw.row PySem.Challenge.rw_steerpapers_k12_tables_added_and_multipl
def dd_is_whole : He.DefD := ⟨("is_whole", none), "is_whole", "is_whole", defArgs st_is_whole, defBody st_is_whole, defScope st_is_whole, [], []⟩
def dd_in_tuples : He.DefD := ⟨("in_tuples", none), "in_tuples", "in_tuples", defArgs st_in_tuples, defBody st_in_tuples, defScope st_in_tuples, [], []⟩
def dd_need_between : He.DefD := ⟨("need_between", none), "need_between", "need_between", defArgs st_need_between, defBody st_need_between, defScope st_need_between, [], []⟩
def dd_is_pair : He.DefD := ⟨("is_pair", none), "is_pair", "is_pair", defArgs st_is_pair, defBody st_is_pair, defScope st_is_pair, [], []⟩
def dd_is_ratio : He.DefD := ⟨("is_ratio", none), "is_ratio", "is_ratio", defArgs st_is_ratio, defBody st_is_ratio, defScope st_is_ratio, [], []⟩
def dd_lowest : He.DefD := ⟨("lowest", none), "lowest", "lowest", defArgs st_lowest, defBody st_lowest, defScope st_lowest, [], []⟩
def dd_told : He.DefD := ⟨("told", none), "told", "told", defArgs st_told, defBody st_told, defScope st_told, [], []⟩
def dd_summed : He.DefD := ⟨("summed", none), "summed", "summed", defArgs st_summed, defBody st_summed, defScope st_summed, [], []⟩
def dd_scaled : He.DefD := ⟨("scaled", none), "scaled", "scaled", defArgs st_scaled, defBody st_scaled, defScope st_scaled, [], []⟩
def dd_is_loose_row : He.DefD := ⟨("is_loose_row", none), "is_loose_row", "is_loose_row", defArgs st_is_loose_row, defBody st_is_loose_row, defScope st_is_loose_row, [], []⟩
def dd_table_or_none : He.DefD := ⟨("table_or_none", none), "table_or_none", "table_or_none", defArgs st_table_or_none, defBody st_table_or_none, defScope st_table_or_none, [], []⟩
def dd_table_from : He.DefD := ⟨("table_from", none), "table_from", "table_from", defArgs st_table_from, defBody st_table_from, defScope st_table_from, [], []⟩
def dd_two_from : He.DefD := ⟨("two_from", none), "two_from", "two_from", defArgs st_two_from, defBody st_two_from, defScope st_two_from, [], []⟩
def dd_width_of : He.DefD := ⟨("width_of", none), "width_of", "width_of", defArgs st_width_of, defBody st_width_of, defScope st_width_of, [], []⟩
def dd_need_like : He.DefD := ⟨("need_like", none), "need_like", "need_like", defArgs st_need_like, defBody st_need_like, defScope st_need_like, [], []⟩
def dd_is_square : He.DefD := ⟨("is_square", none), "is_square", "is_square", defArgs st_is_square, defBody st_is_square, defScope st_is_square, [], []⟩
def dd_square_from : He.DefD := ⟨("square_from", none), "square_from", "square_from", defArgs st_square_from, defBody st_square_from, defScope st_square_from, [], []⟩
def dd_ratio_from : He.DefD := ⟨("ratio_from", none), "ratio_from", "ratio_from", defArgs st_ratio_from, defBody st_ratio_from, defScope st_ratio_from, [], []⟩
def dd_row_plus : He.DefD := ⟨("row_plus", none), "row_plus", "row_plus", defArgs st_row_plus, defBody st_row_plus, defScope st_row_plus, [], []⟩
def dd_sum_by : He.DefD := ⟨("sum_by", none), "sum_by", "sum_by", defArgs st_sum_by, defBody st_sum_by, defScope st_sum_by, [], []⟩
def dd_less_by : He.DefD := ⟨("less_by", none), "less_by", "less_by", defArgs st_less_by, defBody st_less_by, defScope st_less_by, [], []⟩
def dd_table_sum : He.DefD := ⟨("table_sum", none), "table_sum", "table_sum", defArgs st_table_sum, defBody st_table_sum, defScope st_table_sum, [], []⟩
def dd_table_less : He.DefD := ⟨("table_less", none), "table_less", "table_less", defArgs st_table_less, defBody st_table_less, defScope st_table_less, [], []⟩
def dd_times_by : He.DefD := ⟨("times_by", none), "times_by", "times_by", defArgs st_times_by, defBody st_times_by, defScope st_times_by, [], []⟩
def dd_table_times : He.DefD := ⟨("table_times", none), "table_times", "table_times", defArgs st_table_times, defBody st_table_times, defScope st_table_times, [], []⟩
def dd_mixed_by : He.DefD := ⟨("mixed_by", none), "mixed_by", "mixed_by", defArgs st_mixed_by, defBody st_mixed_by, defScope st_mixed_by, [], []⟩
def dd_product_by : He.DefD := ⟨("product_by", none), "product_by", "product_by", defArgs st_product_by, defBody st_product_by, defScope st_product_by, [], []⟩
def dd_table_product : He.DefD := ⟨("table_product", none), "table_product", "table_product", defArgs st_table_product, defBody st_table_product, defScope st_table_product, [], []⟩
def dd_turned_by : He.DefD := ⟨("turned_by", none), "turned_by", "turned_by", defArgs st_turned_by, defBody st_turned_by, defScope st_turned_by, [], []⟩
def dd_turned_over : He.DefD := ⟨("turned_over", none), "turned_over", "turned_over", defArgs st_turned_over, defBody st_turned_over, defScope st_turned_over, [], []⟩
def dd_unit_row : He.DefD := ⟨("unit_row", none), "unit_row", "unit_row", defArgs st_unit_row, defBody st_unit_row, defScope st_unit_row, [], []⟩
def dd_unit_by : He.DefD := ⟨("unit_by", none), "unit_by", "unit_by", defArgs st_unit_by, defBody st_unit_by, defScope st_unit_by, [], []⟩
def dd_unit_table : He.DefD := ⟨("unit_table", none), "unit_table", "unit_table", defArgs st_unit_table, defBody st_unit_table, defScope st_unit_table, [], []⟩
def dd_power_by : He.DefD := ⟨("power_by", none), "power_by", "power_by", defArgs st_power_by, defBody st_power_by, defScope st_power_by, [], []⟩
def dd_table_power : He.DefD := ⟨("table_power", none), "table_power", "table_power", defArgs st_table_power, defBody st_table_power, defScope st_table_power, [], []⟩
def dd__law_pen : He.DefD := ⟨("_law_pen", none), "_law_pen", "_law_pen", defArgs st__law_pen, defBody st__law_pen, defScope st__law_pen, [], []⟩
def dd__law_draw : He.DefD := ⟨("_law_draw", none), "_law_draw", "_law_draw", defArgs st__law_draw, defBody st__law_draw, defScope st__law_draw, [], []⟩
def dd__law_pick : He.DefD := ⟨("_law_pick", none), "_law_pick", "_law_pick", defArgs st__law_pick, defBody st__law_pick, defScope st__law_pick, [], []⟩
def dd__law_gcd : He.DefD := ⟨("_law_gcd", none), "_law_gcd", "_law_gcd", defArgs st__law_gcd, defBody st__law_gcd, defScope st__law_gcd, [], []⟩
def dd__law_q : He.DefD := ⟨("_law_q", none), "_law_q", "_law_q", defArgs st__law_q, defBody st__law_q, defScope st__law_q, [], []⟩
def dd__law_plus : He.DefD := ⟨("_law_plus", none), "_law_plus", "_law_plus", defArgs st__law_plus, defBody st__law_plus, defScope st__law_plus, [], []⟩
def dd__law_times : He.DefD := ⟨("_law_times", none), "_law_times", "_law_times", defArgs st__law_times, defBody st__law_times, defScope st__law_times, [], []⟩
def dd__law_handed : He.DefD := ⟨("_law_handed", none), "_law_handed", "_law_handed", defArgs st__law_handed, defBody st__law_handed, defScope st__law_handed, [], []⟩
def dd__law_handed_row : He.DefD := ⟨("_law_handed_row", none), "_law_handed_row", "_law_handed_row", defArgs st__law_handed_row, defBody st__law_handed_row, defScope st__law_handed_row, [], []⟩
def dd__law_passed : He.DefD := ⟨("_law_passed", none), "_law_passed", "_law_passed", defArgs st__law_passed, defBody st__law_passed, defScope st__law_passed, [], []⟩
def dd__law_ratio : He.DefD := ⟨("_law_ratio", none), "_law_ratio", "_law_ratio", defArgs st__law_ratio, defBody st__law_ratio, defScope st__law_ratio, [], []⟩
def dd__law_sum : He.DefD := ⟨("_law_sum", none), "_law_sum", "_law_sum", defArgs st__law_sum, defBody st__law_sum, defScope st__law_sum, [], []⟩
def dd__law_zeros : He.DefD := ⟨("_law_zeros", none), "_law_zeros", "_law_zeros", defArgs st__law_zeros, defBody st__law_zeros, defScope st__law_zeros, [], []⟩
def dd__law_row_table : He.DefD := ⟨("_law_row_table", none), "_law_row_table", "_law_row_table", defArgs st__law_row_table, defBody st__law_row_table, defScope st__law_row_table, [], []⟩
def dd__law_add : He.DefD := ⟨("_law_add", none), "_law_add", "_law_add", defArgs st__law_add, defBody st__law_add, defScope st__law_add, [], []⟩
def dd__law_scaled : He.DefD := ⟨("_law_scaled", none), "_law_scaled", "_law_scaled", defArgs st__law_scaled, defBody st__law_scaled, defScope st__law_scaled, [], []⟩
def dd__law_product : He.DefD := ⟨("_law_product", none), "_law_product", "_law_product", defArgs st__law_product, defBody st__law_product, defScope st__law_product, [], []⟩
def dd__law_table_sum : He.DefD := ⟨("_law_table_sum", none), "_law_table_sum", "_law_table_sum", defArgs st__law_table_sum, defBody st__law_table_sum, defScope st__law_table_sum, [], []⟩
def dd__law_turned : He.DefD := ⟨("_law_turned", none), "_law_turned", "_law_turned", defArgs st__law_turned, defBody st__law_turned, defScope st__law_turned, [], []⟩
def dd__law_unit : He.DefD := ⟨("_law_unit", none), "_law_unit", "_law_unit", defArgs st__law_unit, defBody st__law_unit, defScope st__law_unit, [], []⟩
def dd__law_table_fault : He.DefD := ⟨("_law_table_fault", none), "_law_table_fault", "_law_table_fault", defArgs st__law_table_fault, defBody st__law_table_fault, defScope st__law_table_fault, [], []⟩
def dd__law_tables_due : He.DefD := ⟨("_law_tables_due", none), "_law_tables_due", "_law_tables_due", defArgs st__law_tables_due, defBody st__law_tables_due, defScope st__law_tables_due, [], []⟩
def dd__law_some_table : He.DefD := ⟨("_law_some_table", none), "_law_some_table", "_law_some_table", defArgs st__law_some_table, defBody st__law_some_table, defScope st__law_some_table, [], []⟩
def dd__law_handed_table : He.DefD := ⟨("_law_handed_table", none), "_law_handed_table", "_law_handed_table", defArgs st__law_handed_table, defBody st__law_handed_table, defScope st__law_handed_table, [], []⟩
def dd__law_bad_table : He.DefD := ⟨("_law_bad_table", none), "_law_bad_table", "_law_bad_table", defArgs st__law_bad_table, defBody st__law_bad_table, defScope st__law_bad_table, [], []⟩
def dd__law_wide : He.DefD := ⟨("_law_wide", none), "_law_wide", "_law_wide", defArgs st__law_wide, defBody st__law_wide, defScope st__law_wide, [], []⟩
def dd_law : He.DefD := ⟨("law", none), "law", "law", defArgs st_law, defBody st_law, defScope st_law, [], []⟩
abbrev in_BadNumber : Stmt := (C8.clsBody (top 3)).getD 0 (.Pass ⟨0, 0, 0, 0⟩)
def di_BadNumber : He.DefD := ⟨("BadNumber", some "__init__"), "__init__", "BadNumber.__init__", defArgs in_BadNumber, defBody in_BadNumber, defScope in_BadNumber, [], []⟩
abbrev in_BadRow : Stmt := (C8.clsBody (top 4)).getD 0 (.Pass ⟨0, 0, 0, 0⟩)
def di_BadRow : He.DefD := ⟨("BadRow", some "__init__"), "__init__", "BadRow.__init__", defArgs in_BadRow, defBody in_BadRow, defScope in_BadRow, [], []⟩
abbrev in_BadTable : Stmt := (C8.clsBody (top 5)).getD 0 (.Pass ⟨0, 0, 0, 0⟩)
def di_BadTable : He.DefD := ⟨("BadTable", some "__init__"), "__init__", "BadTable.__init__", defArgs in_BadTable, defBody in_BadTable, defScope in_BadTable, [], []⟩
abbrev in_Unlike : Stmt := (C8.clsBody (top 6)).getD 0 (.Pass ⟨0, 0, 0, 0⟩)
def di_Unlike : He.DefD := ⟨("Unlike", some "__init__"), "__init__", "Unlike.__init__", defArgs in_Unlike, defBody in_Unlike, defScope in_Unlike, [], []⟩
def fn : List He.DefD := ([dd_is_whole, dd_in_tuples, dd_need_between, dd_is_pair, dd_is_ratio, dd_lowest, dd_told, dd_summed, dd_scaled, dd_is_loose_row, dd_table_or_none, dd_table_from] : List (He.DefD)) ++ ([dd_two_from, dd_width_of, dd_need_like, dd_is_square, dd_square_from, dd_ratio_from, dd_row_plus, dd_sum_by, dd_less_by, dd_table_sum, dd_table_less, dd_times_by] : List (He.DefD)) ++ ([dd_table_times, dd_mixed_by, dd_product_by, dd_table_product, dd_turned_by, dd_turned_over, dd_unit_row, dd_unit_by, dd_unit_table, dd_power_by, dd_table_power, dd__law_pen] : List (He.DefD)) ++ ([dd__law_draw, dd__law_pick, dd__law_gcd, dd__law_q, dd__law_plus, dd__law_times, dd__law_handed, dd__law_handed_row, dd__law_passed, dd__law_ratio, dd__law_sum, dd__law_zeros] : List (He.DefD)) ++ ([dd__law_row_table, dd__law_add, dd__law_scaled, dd__law_product, dd__law_table_sum, dd__law_turned, dd__law_unit, dd__law_table_fault, dd__law_tables_due, dd__law_some_table, dd__law_handed_table, dd__law_bad_table] : List (He.DefD)) ++ ([dd__law_wide, dd_law, di_BadNumber, di_BadRow, di_BadTable, di_Unlike] : List (He.DefD))
def bs : List (Str × Str) := ([("BadNumber", "SteerError"), ("BadRow", "SteerError"), ("BadTable", "SteerError"), ("Unlike", "SteerError")] : List (Str × Str))
def fa : List He.Fa := fasOf PP "law" ++ [.glo "SteerError"]
abbrev tf : List He.Defn := [("law", none)]
abbrev hk : PySem.W.Hook := hookC fa fn tf (exB PP bs)
def ob (s : PySem.W.SharedT) : He.AlX := obC fa fn tf (exB PP bs) (HandSHeadRun.getT s)
theorem ob_eq (s : PySem.W.SharedT) : ob s = hk.obs s.abs := obC_eq (HandSHeadRun.getT_eq s)
abbrev loose : List Str := (["SteerError", "BadNumber", "BadRow", "BadTable", "Unlike", "is_whole", "in_tuples", "need_between", "is_pair", "is_ratio", "lowest", "told", "summed", "scaled", "MOST_SIZE", "NONE", "ONE", "is_loose_row", "table_or_none", "table_from"] : List Str) ++ (["two_from", "width_of", "need_like", "is_square", "square_from", "ratio_from", "row_plus", "sum_by", "less_by", "table_sum", "table_less", "times_by", "table_times", "mixed_by", "product_by", "table_product", "turned_by", "turned_over", "unit_row", "unit_by"] : List Str) ++ (["unit_table", "power_by", "table_power", "_law_pen", "_law_draw", "_law_pick", "_law_gcd", "_law_q", "_law_plus", "_law_times", "_law_handed", "_law_handed_row", "_law_passed", "_law_ratio", "_law_sum", "_law_zeros", "_law_row_table", "_law_add", "_law_scaled", "_law_product"] : List Str) ++ (["_law_table_sum", "_law_turned", "_law_unit", "_law_table_fault", "_law_tables_due", "_law_some_table", "_law_handed_table", "_law_bad_table", "_law_wide"] : List Str)
abbrev qv : Program := PySem.W.view R.prog [0, 75]
theorem run (w : World) : HandSHeadRun.RunEqI R qv hk ob 6000 loose w := by
  unfold HandSHeadRun.RunEqI
  kernel_rfl
end K12
/-! Rf3: readings by the evaluator; composing them; new objects -/
namespace Rf
open PySem PySem.Spec L2
section
variable {α β : Type} {T : Tbs} {X : Cx} {W : WX} {st : Sx} {g : GS} {σ : L2.St} {H : Hp}
/-- what holds behind a run -/
def KK (T : Tbs) (X : Cx) (W : WX) (g : GS) (H : Hp) (σ : L2.St) (OK : α → Sx → GS → Hp → Prop) : Except Exn α × Sx → Prop
  | (.ok a, st') => ∀ g' H', Step g H g' H' → Rel T X st' g' σ H' → OK a st' g' H'
  | (.error x, st') => ∀ g' H' cls d, Step g H g' H' → Rel T X st' g' σ H' → RpX g' H' x cls d → W cls d σ H'
/-- a run from here, and what it brings -/
def RD (T : Tbs) (X : Cx) (W : WX) (m : Ev α) (st : Sx) (g : GS) (σ : L2.St) (H : Hp) (OK : α → Sx → GS → Hp → Prop) : Prop :=
  Rel T X st g σ H ∧ ∃ res, m st = some res ∧ KK T X W g H σ OK res
theorem KK.shift {OK : α → Sx → GS → Hp → Prop} {g' : GS} {H' : Hp} {res : Except Exn α × Sx} (s : Step g H g' H') (k : KK T X W g H σ OK res) : KK T X W g' H' σ OK res := by
  obtain ⟨r, st'⟩ := res
  cases r with
  | ok a => exact fun g2 H2 s2 rel => k g2 H2 (s.trans s2) rel
  | error x => exact fun g2 H2 cls d s2 rel rx => k g2 H2 cls d (s.trans s2) rel rx
theorem RD.bind {m : Ev α} {f : α → Ev β} {OK : β → Sx → GS → Hp → Prop} (h : RD T X W (m.bind f) st g σ H OK) : RD T X W m st g σ H (fun a st' g' H' => RD T X W (f a) st' g' σ H' OK) := by
  obtain ⟨rel, res, e, k⟩ := h
  refine ⟨rel, ?_⟩
  unfold Ev.bind at e
  cases hm : m st with
  | none => rw [hm] at e; cases e
  | some r1 =>
    obtain ⟨r, st'⟩ := r1
    rw [hm] at e
    cases r with
    | error x =>
      cases e
      exact ⟨_, rfl, k⟩
    | ok a => exact ⟨_, rfl, fun g' H' s rel' => ⟨rel', res, e, k.shift s⟩⟩
theorem RD.mono {m : Ev α} {OK OK' : α → Sx → GS → Hp → Prop} (h : RD T X W m st g σ H OK) (f : ∀ a st' g' H', Step g H g' H' → Rel T X st' g' σ H' → OK a st' g' H' → OK' a st' g' H') : RD T X W m st g σ H OK' := by
  obtain ⟨rel, ⟨r, st'⟩, e, k⟩ := h
  refine ⟨rel, _, e, ?_⟩
  cases r with
  | ok a => exact fun g' H' s rel' => f a st' g' H' s rel' (k g' H' s rel')
  | error x => exact k
theorem RD.ok {a : α} {OK : α → Sx → GS → Hp → Prop} (h : RD T X W (Ev.ok a) st g σ H OK) : ∀ g' H', Step g H g' H' → Rel T X st g' σ H' → OK a st g' H' := by
  obtain ⟨rel, res, e, k⟩ := h
  cases e
  exact k
theorem RD.ok0 {a : α} {OK : α → Sx → GS → Hp → Prop} (h : RD T X W (Ev.ok a) st g σ H OK) : OK a st g H := h.ok g H (.refl g H) h.1
theorem RD.no {OK : α → Sx → GS → Hp → Prop} (h : RD T X W Ev.no st g σ H OK) : False := by
  obtain ⟨rel, res, e, k⟩ := h
  cases e
theorem RD.of {o : Option α} {OK : α → Sx → GS → Hp → Prop} (h : RD T X W (Ev.of o) st g σ H OK) : ∃ a, o = some a ∧ ∀ g' H', Step g H g' H' → Rel T X st g' σ H' → OK a st g' H' := by
  obtain ⟨rel, res, e, k⟩ := h
  unfold Ev.of at e
  cases o with
  | none => cases e
  | some a =>
    cases e
    exact ⟨a, rfl, k⟩
theorem RD.of0 {o : Option α} {OK : α → Sx → GS → Hp → Prop} (h : RD T X W (Ev.of o) st g σ H OK) : ∃ a, o = some a ∧ OK a st g H := by
  obtain ⟨a, e, k⟩ := h.of
  exact ⟨a, e, k g H (.refl g H) h.1⟩
theorem RD.ifT {c : Prop} [Decidable c] {m : Ev α} {OK : α → Sx → GS → Hp → Prop} (h : RD T X W (if c then m else Ev.no) st g σ H OK) : c ∧ RD T X W m st g σ H OK := by
  by_cases hc : c
  · rw [if_pos hc] at h
    exact ⟨hc, h⟩
  · rw [if_neg hc] at h
    exact h.no.elim
theorem RD.sto {f : Sto → Ev α} {OK : α → Sx → GS → Hp → Prop} (h : RD T X W (Rf.sto f) st g σ H OK) : RD T X W (f st.S) st g σ H OK := h
/-! ### the readings -/
def okE (Q : VK) : R → Sx → GS → Hp → Prop := fun r st g H => ∀ v, RpR g H st.env r v → Q v H
def okV (Q : VK) : R → Sx → GS → Hp → Prop := fun r st g H => ∀ v, Rp g r.d v → Q v H
/-- a place's value -/
def RpP (g : GS) (σ : L2.St) : Pl → V → Prop
  | .var i, v => σ[i]? = some (some v)
  | .tmp d, v => Rp g d v
theorem RpP.mono {g g' : GS} (h : Gr g g') {p : Pl} {v : V} (r : RpP g σ p v) : RpP g' σ p v := by
  cases p with
  | var i => exact r
  | tmp d => exact Rp.mono h r
def okP (σ : L2.St) (Q : VK) : Pl → Sx → GS → Hp → Prop := fun p st g H => ∀ v, RpP g σ p v → Q v H
def okA (Q : List V → Hp → Prop) : List D → Sx → GS → Hp → Prop := fun ds st g H => ∀ vs, RpL g ds vs → Q vs H
/-- several places -/
inductive RpPs (g : GS) (σ : L2.St) : List Pl → List V → Prop
  | nil : RpPs g σ [] []
  | cons {p : Pl} {ps : List Pl} {v : V} {vs : List V} : RpP g σ p v → RpPs g σ ps vs → RpPs g σ (p :: ps) (v :: vs)
theorem RpPs.mono {g g' : GS} (h : Gr g g') : ∀ {ps : List Pl} {vs : List V}, RpPs g σ ps vs → RpPs g' σ ps vs
  | _, _, .nil => .nil
  | _, _, .cons a b => .cons (a.mono h) (b.mono h)
def okPs (σ : L2.St) (Q : List V → Hp → Prop) : List Pl → Sx → GS → Hp → Prop := fun ps st g H => ∀ vs, RpPs g σ ps vs → Q vs H
def tEv (T : Tbs) (X : Cx) (W : WX) (m : Ev R) : TE := fun σ H Q => ∃ st g, RD T X W m st g σ H (okE Q)
def tPv (T : Tbs) (X : Cx) (W : WX) (m : Ev Pl) : TE := fun σ H Q => ∃ st g, RD T X W m st g σ H (okP σ Q)
def tTv (T : Tbs) (X : Cx) (W : WX) (m : Ev Bool) : TT := fun σ H Q => ∃ st g, RD T X W m st g σ H (fun b _ _ H => Q b H)
def tAv (T : Tbs) (X : Cx) (W : WX) (m : Ev (List D)) : TA := fun σ H Q => ∃ st g, RD T X W m st g σ H (okA Q)
def tPsv (T : Tbs) (X : Cx) (W : WX) (m : Ev (List Pl)) : TA := fun σ H Q => ∃ st g, RD T X W m st g σ H (okPs σ Q)
theorem pe_weak {e : Expr} {t t' : TE} (h : PE X e t) (w : ∀ σ H Q, t' σ H Q → t σ H Q) : PE X e t' := ⟨fun pins s σ H Q I q => h.run pins s σ H Q I (w σ H Q q)⟩
theorem pt_weak {e : Expr} {t t' : TT} (h : PT X e t) (w : ∀ σ H Q, t' σ H Q → t σ H Q) : PT X e t' := ⟨fun pins s σ H Q I q => h.run pins s σ H Q I (w σ H Q q)⟩
theorem pw_weak {e : Expr} {t t' : TT} (h : PW X e t) (w : ∀ σ H Q, t' σ H Q → t σ H Q) : PW X e t' := ⟨fun wh pins s σ H Q I q => h.run wh pins s σ H Q I (w σ H Q q)⟩
theorem pa_weak {es : List Expr} {t t' : TA} (h : PA X es t) (w : ∀ σ H Q, t' σ H Q → t σ H Q) : PA X es t' := ⟨fun pos pins s σ H Q I q => h.run pos pins s σ H Q I (w σ H Q q)⟩
theorem ps_weak {s : Stmt} {t t' : TS} (h : PS X s t) (w : ∀ D σ H, t' D σ H → t D σ H) : PS X s t' := ⟨fun pins s σ H D I q => h.run pins s σ H D I (w D σ H q)⟩
theorem pss_weak {s : List Stmt} {t t' : TS} (h : PSs X s t) (w : ∀ D σ H, t' D σ H → t D σ H) : PSs X s t' := ⟨fun pins s σ H D I q => h.run pins s σ H D I (w D σ H q)⟩
theorem pe_void {e : Expr} {t : TE} (w : ∀ σ H Q, ¬ t σ H Q) : PE X e t := ⟨fun pins s σ H Q I q => (w σ H Q q).elim⟩
theorem pt_void {e : Expr} {t : TT} (w : ∀ σ H Q, ¬ t σ H Q) : PT X e t := ⟨fun pins s σ H Q I q => (w σ H Q q).elim⟩
theorem ps_void {e : Stmt} {t : TS} (w : ∀ D σ H, ¬ t D σ H) : PS X e t := ⟨fun pins s σ H D I q => (w D σ H q).elim⟩
/-! ### looking at a place -/
/-- what a place shows: a value, or a list of ours as it stands -/
def RpS (g : GS) (H : Hp) (d : D) (v : V) : Prop := Rp g d v ∨ ∃ xs a vs, d = .lst xs ∧ v = .ref a ∧ H a = some (.lst vs) ∧ RpL g xs vs
theorem resP_ok {p : Pl} {v : V} {OK : D → Sx → GS → Hp → Prop} (h : RD T X W (resP p) st g σ H OK) (r : RpP g σ p v) : ∃ d, RpS g H d v ∧ ∀ g' H', Step g H g' H' → Rel T X st g' σ H' → OK d st g' H' := by
  cases p with
  | tmp d => exact ⟨d, .inl r, h.ok⟩
  | var i =>
    obtain ⟨rel, res, e, k⟩ := h
    have r : σ[i]? = some (some v) := r
    unfold resP at e
    cases hb : st.env[i]? with
    | none => simp only [hb] at e; cases e
    | some b =>
      simp only [hb] at e
      have bd := rel.bd i b hb
      cases b with
      | un => cases e
      | val d =>
        cases e
        obtain ⟨w, e1, rw⟩ := bd
        rw [r] at e1
        cases e1
        exact ⟨d, .inl rw, k⟩
      | own xs =>
        cases e
        obtain ⟨vs, e1, h1, h2, _⟩ := bd
        rw [r] at e1
        cases e1
        exact ⟨_, .inr ⟨xs, _, vs, rfl, rfl, h1, h2⟩, k⟩
      | lent xs =>
        cases e
        obtain ⟨vs, e1, h1, h2, _⟩ := bd
        rw [r] at e1
        cases e1
        exact ⟨_, .inr ⟨xs, _, vs, rfl, rfl, h1, h2⟩, k⟩
inductive RpSs (g : GS) (H : Hp) : List D → List V → Prop
  | nil : RpSs g H [] []
  | cons {d : D} {ds : List D} {v : V} {vs : List V} : RpS g H d v → RpSs g H ds vs → RpSs g H (d :: ds) (v :: vs)
theorem resL_ok {OK : List D → Sx → GS → Hp → Prop} : ∀ {ps : List Pl} {vs : List V}, RD T X W (resL ps) st g σ H OK → RpPs g σ ps vs → ∃ ds, RpSs g H ds vs ∧ ∀ g' H', Step g H g' H' → Rel T X st g' σ H' → OK ds st g' H'
  | [], _, h, .nil => ⟨[], .nil, h.ok⟩
  | p :: ps, _, h, .cons a b => by
    obtain ⟨d, r1, k1⟩ := resP_ok h.bind a
    obtain ⟨ds, r2, k2⟩ := resL_ok (OK := fun ds st' g' H' => ∀ g2 H2, Step g' H' g2 H2 → Rel T X st' g2 σ H2 → OK (d :: ds) st' g2 H2) (ps := ps) ((k1 g H (.refl g H) h.1).bind.mono fun ds st' g' H' _ _ h' => h'.ok) b
    exact ⟨d :: ds, .cons r1 r2, fun g' H' s rel' => k2 g' H' s rel' g' H' (.refl _ _) rel'⟩
/-- the shapes of what is shown -/
theorem RpS.int {i : Int} {v : V} (r : RpS g H (.int i) v) : v = .int i := by
  rcases r with r | ⟨_, _, _, e, _⟩
  · cases r; rfl
  · cases e
theorem RpS.bl {i : Bool} {v : V} (r : RpS g H (.bl i) v) : v = .bl i := by
  rcases r with r | ⟨_, _, _, e, _⟩
  · cases r; rfl
  · cases e
theorem RpS.str {i : Str} {v : V} (r : RpS g H (.str i) v) : v = .str i := by
  rcases r with r | ⟨_, _, _, e, _⟩
  · cases r; rfl
  · cases e
theorem RpS.non {v : V} (r : RpS g H .non v) : v = .non := by
  rcases r with r | ⟨_, _, _, e, _⟩
  · cases r; rfl
  · cases e
theorem RpS.lst {xs : List D} {v : V} {S : Sto} (w : Wd g H S) (r : RpS g H (.lst xs) v) : ∃ a vs, v = .ref a ∧ H a = some (.lst vs) ∧ RpL g xs vs := by
  rcases r with r | ⟨_, a, vs, e, ev, h, q⟩
  · cases r with
    | lst h q => exact ⟨_, _, rfl, w.sub _ _ h, q⟩
  · cases e
    exact ⟨a, vs, ev, h, q⟩
theorem RpS.tup {xs : List D} {v : V} {S : Sto} (w : Wd g H S) (r : RpS g H (.tup xs) v) : ∃ a vs, v = .ref a ∧ SqT g.K H a vs ∧ RpL g xs vs := by
  rcases r with r | ⟨_, _, _, e, _⟩
  · cases r with
    | tup h q => exact ⟨_, _, rfl, sqT_mono w.sub h, q⟩
  · cases e
theorem RpS.scr {xs : List D} {v : V} {S : Sto} (w : Wd g H S) (r : RpS g H (.scr xs) v) : ∃ a vs, v = .ref a ∧ SqL g.K H a vs ∧ RpL g xs vs := by
  rcases r with r | ⟨_, _, _, e, _⟩
  · cases r with
    | scr h q => exact ⟨_, _, rfl, sqL_mono w.sub h, q⟩
  · cases e
theorem RpS.cel {n : Nat} {v : V} (r : RpS g H (.cel n) v) : ∃ a, v = .ref a ∧ g.mu[n]? = some a := by
  rcases r with r | ⟨_, _, _, e, _⟩
  · cases r with
    | cel h => exact ⟨_, rfl, h⟩
  · cases e
theorem RpS.of {d : D} {v : V} (r : Rp g d v) : RpS g H d v := .inl r
/-! ### new objects -/
theorem Rel.new0 {p : Addr} {o : HO} (r : Rel T X st g σ H) (n : H p = none) : Step g H g (upd H p o) ∧ Rel T X st g σ (upd H p o) := by
  have sm : ∀ b u, H b = some u → upd H p o b = some u := fun b u e => by rw [upd_ne (ne_of_none e n)]; exact e
  have nz : ∀ b, H b ≠ none → upd H p o b ≠ none := fun b e => by
    cases q : H b with
    | none => exact absurd q e
    | some u => rw [sm b u q]; intro z; cases z
  refine ⟨⟨.refl g, rfl, rfl, rfl, fun _ _ h => .inl h, fun _ h => .inl h, fun b u e _ _ _ => sm b u e, nz⟩, ⟨r.tb, r.K, r.mg, r.lm, ⟨fun b u e => sm b u (r.wd.sub b u e), r.wd.nof, r.wd.nd, r.wd.len, fun i a kvs h1 h2 => ?_, fun b e => nz b (r.wd.dom b e), r.wd.tabs.ext (fun _ _ h => h) (fun _ _ _ h => h) fun b ps => sm b _⟩, r.len, fun i b e => (r.bd i b e).step (.refl g) fun ho => ?_, r.inj, fun q hq => ?_⟩⟩
  · obtain ⟨k, e, q⟩ := r.wd.cel i a kvs h1 h2
    exact ⟨k, sm _ _ e, q⟩
  · obtain ⟨vs, h1, h2, h3, h4⟩ := r.owns (own_one e ho)
    exact ⟨rfl, by rw [sm _ _ h1, h1], h2, h3, h4⟩
  · obtain ⟨a, b, c⟩ := r.lam q hq
    exact ⟨a, b, sm _ _ c⟩
theorem Rel.nB {p : Addr} (r : Rel T X st g σ H) (n : H p = none) : g.B p = none := by
  cases q : g.B p with
  | none => rfl
  | some o => exact absurd n (r.wd.dom p (by rw [q]; intro z; cases z))
theorem Rel.nF {p : Addr} (r : Rel T X st g σ H) (n : H p = none) : g.F p = none := by
  cases q : g.F p with
  | none => rfl
  | some o => rw [r.wd.sub p o q] at n; cases n
theorem Rel.muH (r : Rel T X st g σ H) {p : Addr} (h : p ∈ g.mu) : ∃ kvs, H p = some (.dK kvs) := by
  obtain ⟨i, hi, e⟩ := List.getElem_of_mem h
  have e1 : g.mu[i]? = some p := by rw [List.getElem?_eq_getElem hi, e]
  have hi2 : i < st.S.length := by rw [r.wd.len]; exact hi
  obtain ⟨k, q, _⟩ := r.wd.cel i p _ e1 (List.getElem?_eq_getElem hi2)
  exact ⟨k, q⟩
theorem Rel.nM {p : Addr} (r : Rel T X st g σ H) (n : H p = none) : p ∉ g.mu := fun h => by
  obtain ⟨k, e⟩ := r.muH h
  rw [n] at e; cases e
theorem Rel.nO {p : Addr} (r : Rel T X st g σ H) (n : H p = none) : ∀ i, Own st.env i → g.om i ≠ p := fun i h z => by
  obtain ⟨vs, e, _⟩ := r.owns h
  rw [z, n] at e; cases e
/-- a new list -/
theorem Rel.newL {p : Addr} {xs : List D} {vs : List V} (r : Rel T X st g σ H) (n : H p = none) (q : RpL g xs vs) : Step g H g (upd H p (.lst vs)) ∧ Rel T X st g σ (upd H p (.lst vs)) ∧ RpR g (upd H p (.lst vs)) st.env (.fresh xs) (.ref p) := by
  obtain ⟨a, b⟩ := r.new0 (o := .lst vs) n
  exact ⟨a, b, p, vs, rfl, upd_same, q, r.nF n, r.nM n, r.nB n, r.nO n⟩
/-- more is frozen -/
def GS.put (g : GS) (a : Addr) (o : HO) : GS := { g with F := upd g.F a o }
theorem Rel.freeze {p : Addr} {o : HO} (r : Rel T X st g σ H) (hH : H p = some o) (hF : g.F p = none) (hB : g.B p = none) (hm : p ∉ g.mu) (hO : ∀ i, Own st.env i → g.om i ≠ p) (ht : ∀ ps, o ≠ .tbl ps) : Step g H (g.put p o) H ∧ Rel T X st (g.put p o) σ H := by
  have gr : Gr g (g.put p o) := ⟨rfl, rfl, fun b u h => by show upd g.F p o b = some u; rw [upd_ne (ne_of_none h hF)]; exact h, fun _ _ h => h, rfl⟩
  have old : ∀ b u, upd g.F p o b = some u → g.F b = some u ∨ (b = p ∧ u = o) := fun b u h => by
    by_cases e : b = p
    · rw [e, upd_same] at h
      cases h
      exact .inr ⟨e, rfl⟩
    · rw [upd_ne e] at h
      exact .inl h
  refine ⟨⟨gr, rfl, rfl, rfl, fun b u h => ?_, fun _ h => .inl h, fun _ _ h _ _ _ => h, fun _ h => h⟩, ⟨r.tb, r.K, r.mg, r.lm.mono gr, ⟨fun b u h => ?_, fun b hb => ?_, r.wd.nd, r.wd.len, fun i b kvs h1 h2 => ?_, r.wd.dom, r.wd.tabs.ext gr.F (fun b ps h h0 => by
    show upd g.F p o b = none
    rw [upd_ne fun z => by rw [z, hH] at h; exact ht ps (Option.some.inj h)]
    exact h0) fun _ _ h => h⟩, r.len, fun i b e => (r.bd i b e).step gr fun ho => ?_, r.inj, r.lam⟩⟩
  · rcases old b u h with z | ⟨z, _⟩
    · exact .inl z
    · exact .inr (by rw [z]; exact hB)
  · rcases old b u h with z | ⟨z1, z2⟩
    · exact r.wd.sub b u z
    · rw [z1, z2]; exact hH
  · show upd g.F p o b = none
    rw [upd_ne fun e => hm (by rw [← e]; exact hb)]
    exact r.wd.nof b hb
  · obtain ⟨k, e, q⟩ := r.wd.cel i b kvs h1 h2
    exact ⟨k, e, q.mono gr⟩
  · have ow := own_one e ho
    obtain ⟨vs, h1, h2, h3, h4⟩ := r.owns ow
    refine ⟨rfl, rfl, ?_, h3, h4⟩
    show upd g.F p o (g.om i) = none
    rw [upd_ne (hO i ow)]
    exact h2
/-- a new tuple -/
theorem Rel.newT {p : Addr} {xs : List D} {vs : List V} (r : Rel T X st g σ H) (n : H p = none) (q : RpL g xs vs) : ∃ g', Step g H g' (upd H p (.tup vs)) ∧ Rel T X st g' σ (upd H p (.tup vs)) ∧ Rp g' (.tup xs) (.ref p) := by
  obtain ⟨a, b⟩ := r.new0 (o := .tup vs) n
  obtain ⟨c, d⟩ := b.freeze (p := p) (o := .tup vs) upd_same (r.nF n) (r.nB n) (r.nM n) (r.nO n) (fun _ z => nomatch z)
  refine ⟨_, a.trans c, d, .tup (SqT.of ?_) (q.mono c.gr)⟩
  show upd g.F p (.tup vs) p = _
  rw [upd_same]
/-- a new list, frozen at once -/
theorem RpR.frz {xs : List D} {v : V} (r : Rel T X st g σ H) (q : RpR g H st.env (.fresh xs) v) : ∃ g', Step g H g' H ∧ Rel T X st g' σ H ∧ Rp g' (.lst xs) v := by
  obtain ⟨a, vs, rfl, h1, h2, h3, h4, h5, h6⟩ := q
  obtain ⟨c, d⟩ := r.freeze (p := a) (o := .lst vs) h1 h3 h5 h4 h6 (fun _ z => nomatch z)
  refine ⟨_, c, d, .lst ?_ (h2.mono c.gr)⟩
  show upd g.F a (.lst vs) a = _
  rw [upd_same]
theorem RpR.val {r : R} {v : V} (rel : Rel T X st g σ H) (q : RpR g H st.env r v) : ∃ g', Step g H g' H ∧ Rel T X st g' σ H ∧ Rp g' r.d v := by
  cases r with
  | val d => exact ⟨g, .refl g H, rel, q⟩
  | fresh xs => exact q.frz rel
end
end Rf
/-! Rf4: operators and comparisons by values -/
namespace Rf
open PySem PySem.Spec L2
theorem tuple_mul1 (l : Addr) (items : Array Value) (n : Nat) (dd : Option Addr) (sl : Array (Option Value)) (u : Tok) :
    Meets (Builtin.«tuple.__mul__» ⟨[.ref l, .int 1 u], []⟩) (fun _ R s => s.heap.get? l = some { cls := .type "tuple", dict := dd, data := .seq items n, slots := sl } ∧
      R (.ok (.ret (.ref l))) s) :=
  .of_wp fun prog w A R s h => by
    obtain ⟨hp, g, d, tk, os⟩ := s
    obtain ⟨hl, h⟩ := h
    have f1 := AutoSeq1.idx_int
    have c1 : (items.isEmpty || (1 : Int) == 1) = true := by simp
    wp_walk using wpAny_loadPart' hl
    repeat (first
      | (refine wpAny_ite_false (decide_eq_false (by decide)) ?_; wp_walk using wpAny_loadPart' hl)
      | (refine wpAny_ite_true (decide_eq_true c1) ?_; wp_walk using wpAny_loadPart' hl))
    exact ⟨_, rfl, h⟩
theorem tuple_mul0 (l : Addr) (items : Array Value) (n : Nat) (dd : Option Addr) (sl : Array (Option Value)) (x : Int) (u : Tok) (hx : x ≤ 0) (c0 : (decide (x < -(2 ^ 63)) || decide (x ≥ 2 ^ 63)) = false) (hi : items.isEmpty = false) :
    Meets (Builtin.«tuple.__mul__» ⟨[.ref l, .int x u], []⟩) (fun _ R s => s.heap.get? l = some { cls := .type "tuple", dict := dd, data := .seq items n, slots := sl } ∧
      R (.ok (.ret (Value.ref s.heap.objs.size))) { s with heap := s.heap.push { cls := Value.type "tuple", data := Data.seq #[] }, toks := s.toks }) :=
  .of_wp fun prog w A R s h => by
    obtain ⟨hp, g, d, tk, os⟩ := s
    obtain ⟨hl, h⟩ := h
    have f1 := AutoSeq1.idx_int
    have c1 : (items.isEmpty || x == 1) = false := by
      rw [hi, Bool.false_or]
      exact beq_eq_false_iff_ne.mpr (by omega)
    have c2 : (decide (x ≤ 0) || items.isEmpty) = true := by
      rw [decide_eq_true hx]
      rfl
    wp_walk using wpAny_loadPart' hl
    repeat (first
      | (refine wpAny_ite_false (decide_eq_false (by rw [c0]; exact Bool.false_ne_true)) ?_; wp_walk using wpAny_loadPart' hl)
      | (refine wpAny_ite_false (decide_eq_false (by rw [c1]; exact Bool.false_ne_true)) ?_; wp_walk using wpAny_loadPart' hl)
      | (refine wpAny_ite_true (decide_eq_true c2) ?_; wp_walk using wpAny_loadPart' hl))
    exact ⟨_, rfl, h⟩
/-- a tuple once -/
def rRepT1 (K : PySem.W.Frag) : R2 := fun x y H Q => ∃ l xs, x = .ref l ∧ y = .int 1 ∧ SqT K H l xs ∧ Q x H
/-- a tuple that holds something, no times -/
def rRepT0 (K : PySem.W.Frag) : R2 := fun x y H Q => ∃ l k xs, x = .ref l ∧ y = .int k ∧ SqT K H l xs ∧ xs ≠ [] ∧ -(2 ^ 63) ≤ k ∧ k ≤ 0 ∧ ∀ p, H p = none → Q (.ref p) (upd H p (.tup []))
section
variable {X : Cx}
theorem op_repT1 : OpR X (binaryOp .Mult) (rRepT1 X.K) := by
  intro pins s σ H x y v u Q I rx ry h
  obtain ⟨l, xs, rfl, rfl, hT, q⟩ := h
  cases rx
  obtain ⟨t, rfl⟩ := ry
  obtain ⟨its, r, ⟨⟨cls, dd, data, sl⟩, ho, hc, n, hd⟩, hs⟩ := I.tuple hT
  simp only at hc hd
  subst hc hd
  refine wpAny_binaryOp_repeat_ref (T := "tuple") (U := "int") (by decide) ⟨_, ho, rfl⟩ (fun s' => typeIs_int s' 1 t) noFill_tuple_mul F.fills_int_mul F.slot_int_rmul repeat_tuple F.slot_int_index.lookup
    (call_meets F.slot_int_rmul (typeIs_int s 1 t) F.entry_int_rmul (F.args_int_rmul_2 _ _) (int_rmul_tuple 1 t l its.toArray n dd sl)
      ⟨ho, rfl, ⟨_, ho, rfl⟩, call_meets F.slot_tuple_mul ⟨_, ho, rfl⟩ F.entry_tuple_mul (F.args_tuple_mul_2 _ _) (tuple_mul1 l its.toArray n dd sl t) ⟨ho, ?_⟩⟩)
  exact ⟨.ref l, H, I, rfl, q⟩
theorem op_repT0 : OpR X (binaryOp .Mult) (rRepT0 X.K) := by
  intro pins s σ H x y v u Q I rx ry h
  obtain ⟨l, k, xs, rfl, rfl, hT, hne, h1, h2, q⟩ := h
  cases rx
  obtain ⟨t, rfl⟩ := ry
  obtain ⟨its, r, ⟨⟨cls, dd, data, sl⟩, ho, hc, n, hd⟩, hs⟩ := I.tuple hT
  simp only at hc hd
  subst hc hd
  have hle : its.length = xs.length := r.length.symm
  have hn : its ≠ [] := fun e => hne (by
    rw [e] at hle
    exact List.eq_nil_of_length_eq_zero hle.symm)
  have hi : its.toArray.isEmpty = false := by
    cases its with
    | nil => exact absurd rfl hn
    | cons a b => rfl
  have c0 : (decide (k < -(2 ^ 63)) || decide (k ≥ 2 ^ 63)) = false := by
    rw [decide_eq_false (by omega), decide_eq_false (by omega)] <;> rfl
  refine wpAny_binaryOp_repeat_ref (T := "tuple") (U := "int") (by decide) ⟨_, ho, rfl⟩ (fun s' => typeIs_int s' k t) noFill_tuple_mul F.fills_int_mul F.slot_int_rmul repeat_tuple F.slot_int_index.lookup
    (call_meets F.slot_int_rmul (typeIs_int s k t) F.entry_int_rmul (F.args_int_rmul_2 _ _) (int_rmul_tuple k t l its.toArray n dd sl)
      ⟨ho, rfl, ⟨_, ho, rfl⟩, call_meets F.slot_tuple_mul ⟨_, ho, rfl⟩ F.entry_tuple_mul (F.args_tuple_mul_2 _ _) (tuple_mul0 l its.toArray n dd sl k t h2 c0 hi) ⟨ho, ?_⟩⟩)
  refine ⟨.ref s.heap.objs.size, _, I.laid (t' := s.toks) (o := .tup []) (fun b ob q => Heap.get?_push_of_some _ q) (Nat.le_refl _) ?_, rfl, q _ (I.hok.fresh (Nat.le_refl _))⟩
  exact ⟨Nat.zero_le _, _, .nil, PyProof.Rows.IsTup.new _ _⟩
end
theorem line_eq : line = sizeLine := by rw [sizeLine_eq]; rfl
section
variable {T : Tbs} {X : Cx} {st : Sx} {g : GS} {σ : L2.St} {H : Hp}
/-- an operator of two shown values -/
structure OpOk (X : Cx) (f : Value → Value → Sem Value) (h : Sto → D → D → Option R) where
  r : R2
  op : OpR X f r
  go : ∀ {T : Tbs} {st : Sx} {g : GS} {σ : L2.St} {H : Hp} {d e : D} {x : R} {v w : V} {Q : VK}, Rel T X st g σ H → h st.S d e = some x → RpS g H d v → RpS g H e w → (∀ g' H', Step g H g' H' → Rel T X st g' σ H' → okE Q x st g' H') → r v w H Q
theorem okE0 {x : R} {Q : VK} (rel : Rel T X st g σ H) (k : ∀ g' H', Step g H g' H' → Rel T X st g' σ H' → okE Q x st g' H') : okE Q x st g H := k g H (.refl g H) rel
theorem tup_or {vs : List V} {ds : List D} (q : RpL g ds vs) : vs = [] ↔ ds = [] := by
  cases q with
  | nil => exact ⟨fun _ => rfl, fun _ => rfl⟩
  | cons a b => exact ⟨fun z => (nomatch z), fun z => (nomatch z)⟩
def opAdd : OpOk X (binaryOp .Add) (fun _ => binop .Add) where
  r := _
  op := op_add.or (op_add_str.or (op_cat.or op_catA))
  go := by
    intro T st g σ H d e x v w Q rel h rd re k
    cases d with
    | int a =>
      cases e with
      | int b =>
        cases h
        exact .inl ⟨a, b, rd.int, re.int, okE0 rel k _ (.int _)⟩
      | _ => cases h
    | str a =>
      cases e with
      | str b =>
        simp only [binop] at h
        split at h
        · rename_i hz
          cases h
          exact .inr (.inl ⟨a, b, rd.str, re.str, by rw [← line_eq]; exact hz, okE0 rel k _ (.str _)⟩)
        · cases h
      | _ => cases h
    | lst a =>
      cases e with
      | lst b =>
        simp only [binop] at h
        split at h
        · rename_i hz
          cases h
          obtain ⟨p, vs, rfl, hp, qa⟩ := rd.lst rel.wd
          obtain ⟨q, ws, rfl, hq, qb⟩ := re.lst rel.wd
          refine .inr (.inr (.inl ⟨p, q, vs, ws, rfl, rfl, hp, hq, by rw [← qa.length, ← qb.length, ← line_eq]; exact hz, fun n hn => ?_⟩))
          obtain ⟨s1, r1, o1⟩ := rel.newL hn (qa.app qb)
          exact k _ _ s1 r1 _ o1
        · cases h
      | _ => cases h
    | tup a =>
      cases e with
      | tup b =>
        simp only [binop] at h
        split at h
        · rename_i hz
          cases h
          obtain ⟨p, vs, rfl, hp, qa⟩ := rd.tup rel.wd
          obtain ⟨q, ws, rfl, hq, qb⟩ := re.tup rel.wd
          have rp : Rp g (.tup a) (.ref p) := by
            rcases rd with z | ⟨_, _, _, z, _⟩
            · exact z
            · cases z
          have rq : Rp g (.tup b) (.ref q) := by
            rcases re with z | ⟨_, _, _, z, _⟩
            · exact z
            · cases z
          refine .inr (.inr (.inr ⟨p, q, vs, ws, rfl, rfl, by rw [← rel.K]; exact hp, by rw [← rel.K]; exact hq, by rw [← qa.length, ← qb.length, ← line_eq]; exact hz, fun z => ?_, fun _ z => ?_, fun _ _ n hn => ?_⟩))
          · have ea := (tup_or qa).mp z
            subst ea
            exact okE0 rel k _ rq
          · have eb := (tup_or qb).mp z
            subst eb
            have z2 := okE0 rel k
            rw [List.append_nil] at z2
            exact z2 _ rp
          · obtain ⟨g', s1, r1, o1⟩ := rel.newT hn (qa.app qb)
            exact k _ _ s1 r1 _ o1
        · cases h
      | _ => cases h
    | _ => cases h
def opSub : OpOk X (binaryOp .Sub) (fun _ => binop .Sub) where
  r := _
  op := op_sub
  go := by
    intro T st g σ H d e x v w Q rel h rd re k
    cases d with
    | int a =>
      cases e with
      | int b =>
        cases h
        exact ⟨a, b, rd.int, re.int, okE0 rel k _ (.int _)⟩
      | _ => cases h
    | _ => cases e <;> cases h
def opMul : OpOk X (binaryOp .Mult) (fun _ => binop .Mult) where
  r := _
  op := op_mulX.or (op_rep.or (op_repT.or (op_repT1.or op_repT0)))
  go := by
    intro T st g σ H d e x v w Q rel h rd re k
    cases d with
    | int a =>
      cases e with
      | int b =>
        simp only [binop] at h
        split at h
        · rename_i hz
          cases h
          refine .inl ⟨a, b, rd.int, re.int, ?_, okE0 rel k _ (.int _)⟩
          have hz : Builtin.Int.intBits a + Builtin.Int.intBits b ≤ 134217728 := hz
          show (Builtin.Int.intBits a : Int) + (Builtin.Int.intBits b : Int) ≤ 134217728
          omega
        · cases h
      | _ => cases h
    | lst a =>
      cases e with
      | int b =>
        simp only [binop] at h
        split at h
        · rename_i hz
          cases h
          obtain ⟨p, vs, rfl, hp, qa⟩ := rd.lst rel.wd
          refine .inr (.inl ⟨p, b, vs, rfl, re.int, hp, by have := hz.1; omega, by have := hz.1; omega, by rw [← qa.length, ← line_eq]; exact hz.2, fun n hn => ?_⟩)
          obtain ⟨s1, r1, o1⟩ := rel.newL hn (qa.rep b.toNat)
          exact k _ _ s1 r1 _ o1
        · cases h
      | _ => cases h
    | tup a =>
      cases e with
      | int b =>
        simp only [binop] at h
        split at h
        · rename_i hz
          cases h
          obtain ⟨p, vs, rfl, hp, qa⟩ := rd.tup rel.wd
          refine .inr (.inr (.inl ⟨p, b, vs, rfl, re.int, by rw [← rel.K]; exact hp, fun z => hz.1 ((tup_or qa).mp z), by have := hz.2.1; omega, by have := hz.2.2.1; omega, by rw [← qa.length]; exact hz.2.2.2, fun n hn => ?_⟩))
          obtain ⟨g', s1, r1, o1⟩ := rel.newT hn (qa.rep b.toNat)
          exact k _ _ s1 r1 _ o1
        · split at h
          · rename_i hk
            subst hk
            cases h
            obtain ⟨p, vs, rfl, hp, qa⟩ := rd.tup rel.wd
            refine .inr (.inr (.inr (.inl ⟨p, vs, rfl, re.int, by rw [← rel.K]; exact hp, ?_⟩)))
            rcases rd with r | ⟨_, _, _, e, _⟩
            · exact okE0 rel k _ r
            · cases e
          · split at h
            · rename_i hz
              cases h
              obtain ⟨p, vs, rfl, hp, qa⟩ := rd.tup rel.wd
              refine .inr (.inr (.inr (.inr ⟨p, b, vs, rfl, re.int, by rw [← rel.K]; exact hp, fun z => hz.1 ((tup_or qa).mp z), by have := hz.2.1; omega, by have := hz.2.2; omega, fun n hn => ?_⟩)))
              obtain ⟨g', s1, r1, o1⟩ := rel.newT hn RpL.nil
              exact k _ _ s1 r1 _ o1
            · cases h
      | _ => cases h
    | _ => cases e <;> cases h
theorem op_fdivA : OpR X (binaryOp .FloorDiv) (rI (fun i j => j ≠ 0 ∧ Builtin.divisionGoesByPylong i j = false) fun i j => .int (i.fdiv j)) := opI fun _ _ _ _ _ _ _ hc q => PyProof.Rows.floordiv_int hc.1 q (.inl hc.2)
def opDiv : OpOk X (binaryOp .FloorDiv) (fun _ => binop .FloorDiv) where
  r := _
  op := op_fdivA
  go := by
    intro T st g σ H d e x v w Q rel h rd re k
    cases d with
    | int a =>
      cases e with
      | int b =>
        simp only [binop] at h
        split at h
        · rename_i hz
          cases h
          exact ⟨a, b, rd.int, re.int, hz, okE0 rel k _ (.int _)⟩
        · cases h
      | _ => cases h
    | _ => cases e <;> cases h
def opMod : OpOk X (binaryOp .Mod) (fun _ => binop .Mod) where
  r := _
  op := op_modN
  go := by
    intro T st g σ H d e x v w Q rel h rd re k
    cases d with
    | int a =>
      cases e with
      | int b =>
        simp only [binop] at h
        split at h
        · rename_i hz
          cases h
          exact ⟨a, b, rd.int, re.int, hz, okE0 rel k _ (.int _)⟩
        · cases h
      | _ => cases h
    | _ => cases e <;> cases h
def opPow : OpOk X (binaryOp .Pow) (fun _ => binop .Pow) where
  r := _
  op := op_pow
  go := by
    intro T st g σ H d e x v w Q rel h rd re k
    cases d with
    | int a =>
      cases e with
      | int b =>
        simp only [binop] at h
        split at h
        · rename_i hz
          cases h
          exact ⟨a, b, rd.int, re.int, hz, okE0 rel k _ (.int _)⟩
        · cases h
      | _ => cases h
    | _ => cases e <;> cases h
/-! ### comparisons -/
def cmpR (o : CmpOp) (S : Sto) (d e : D) : Option R := (cmpop S o d e).map fun b => .val (.bl b)
mutual
theorem dp_of {H : Hp} {S : Sto} (w : Wd g H S) : ∀ {d : D} {v : V} {p : PyData}, Rp g d v → d.pd [] = some p → Dp g.K H v p
  | .non, _, _, .non, e => by cases e; exact .non
  | .bl b, _, _, .bl _, e => by cases e; exact .bl b
  | .int b, _, _, .int _, e => by cases e; exact .int b
  | .str b, _, _, .str _, e => by cases e; exact .str b
  | .tup xs, _, _, .tup h q, e => by
    simp only [D.pd, Option.map_eq_some_iff] at e
    obtain ⟨ps, e1, e2⟩ := e
    subst e2
    exact .tup (sqT_mono w.sub h) (dpL_of w q e1)
  | .lst xs, _, _, .lst h q, e => by
    simp only [D.pd, Option.map_eq_some_iff] at e
    obtain ⟨ps, e1, e2⟩ := e
    subst e2
    exact .lst (SqL.of (w.sub _ _ h)) (dpL_of w q e1)
  | .cel n, _, _, .cel h, e => by simp [D.pd] at e
  | .scr xs, _, _, .scr h q, e => by simp [D.pd] at e
  | .fn x, _, _, .fn h _, e => by simp [D.pd] at e
theorem dpL_of {H : Hp} {S : Sto} (w : Wd g H S) : ∀ {ds : List D} {vs : List V} {ps : List PyData}, RpL g ds vs → D.pdL [] ds = some ps → DpAll g.K H vs ps
  | [], _, _, .nil, e => by cases e; exact .nil
  | d :: ds, _, _, .cons a b, e => by
    simp only [D.pdL] at e
    split at e
    · rename_i p ps h1 h2
      cases e
      exact .cons (dp_of w a h1) (dpL_of w b h2)
    · cases e
end
theorem RpS.dp {d : D} {v : V} {p : PyData} (rel : Rel T X st g σ H) (r : RpS g H d v) (e : d.pd [] = some p) : Dp X.K H v p := by
  rw [← rel.K]
  rcases r with r | ⟨xs, a, vs, rfl, rfl, h, q⟩
  · exact dp_of rel.wd r e
  · simp only [D.pd, Option.map_eq_some_iff] at e
    obtain ⟨ps, e1, e2⟩ := e
    subst e2
    exact .lst (SqL.of h) (dpL_of rel.wd q e1)
def opInt (o : CmpOp) (f : Int → Int → Bool) (ho : OpR X (compareOp o) (rI0 fun i j => .bl (f i j))) (hf : ∀ S (d e : D) b, cmpop S o d e = some b → ∃ i j, d = .int i ∧ e = .int j ∧ b = f i j) : OpOk X (compareOp o) (cmpR o) where
  r := _
  op := ho
  go := by
    intro T st g σ H d e x v w Q rel h rd re k
    simp only [cmpR, Option.map_eq_some_iff] at h
    obtain ⟨b, h, rfl⟩ := h
    obtain ⟨i, j, rfl, rfl, rfl⟩ := hf _ _ _ _ h
    exact ⟨i, j, rd.int, re.int, okE0 rel k _ (.bl _)⟩
theorem cmp_int {o : CmpOp} {f : Int → Int → Bool} (h : ∀ S i j, cmpop S o (.int i) (.int j) = some (f i j)) (h2 : ∀ S d e, (∀ i j, ¬ (d = .int i ∧ e = .int j)) → cmpop S o d e = none) : ∀ S (d e : D) b, cmpop S o d e = some b → ∃ i j, d = .int i ∧ e = .int j ∧ b = f i j := fun S d e b q => by
  by_cases z : ∃ i j, d = .int i ∧ e = .int j
  · obtain ⟨i, j, rfl, rfl⟩ := z
    rw [h] at q
    cases q
    exact ⟨i, j, rfl, rfl, rfl⟩
  · rw [h2 S d e (fun i j y => z ⟨i, j, y⟩)] at q
    cases q
def opLt : OpOk X (compareOp .Lt) (cmpR .Lt) := opInt .Lt (fun i j => decide (i < j)) op_lt (cmp_int (fun _ _ _ => rfl) fun S d e z => by cases d <;> cases e <;> first | rfl | exact absurd ⟨rfl, rfl⟩ (z _ _))
def opLe : OpOk X (compareOp .LtE) (cmpR .LtE) := opInt .LtE (fun i j => decide (i ≤ j)) op_le (cmp_int (fun _ _ _ => rfl) fun S d e z => by cases d <;> cases e <;> first | rfl | exact absurd ⟨rfl, rfl⟩ (z _ _))
def opGt : OpOk X (compareOp .Gt) (cmpR .Gt) := opInt .Gt (fun i j => decide (j < i)) op_gt (cmp_int (fun _ _ _ => rfl) fun S d e z => by cases d <;> cases e <;> first | rfl | exact absurd ⟨rfl, rfl⟩ (z _ _))
def opGe : OpOk X (compareOp .GtE) (cmpR .GtE) := opInt .GtE (fun i j => decide (j ≤ i)) op_ge (cmp_int (fun _ _ _ => rfl) fun S d e z => by cases d <;> cases e <;> first | rfl | exact absurd ⟨rfl, rfl⟩ (z _ _))
def opEq (hu : X.A.units + 64 < cLine) : OpOk X (compareOp .Eq) (cmpR .Eq) where
  r := _
  op := op_eq.or (op_eqD hu)
  go := by
    intro T st g σ H d e x v w Q rel h rd re k
    simp only [cmpR, Option.map_eq_some_iff] at h
    obtain ⟨b, h, rfl⟩ := h
    simp only [cmpop] at h
    split at h
    all_goals first
      | contradiction
      | (cases h
         rename_i y z _
         have e1 := rd.str
         have e2 := re.str
         subst e1
         subst e2
         refine .inl ⟨rfl, ?_⟩
         rw [show (decide (V.str y = V.str z) : Bool) = decide (y = z) from by by_cases q : y = z <;> simp [q]]
         exact okE0 rel k _ (.bl _))
      | skip
    all_goals first
      | (split at h
         · rename_i a b' h1 h2
           split at h
           · rename_i hs
             cases h
             exact .inr ⟨a, b', rd.dp rel h1, re.dp rel h2, hs.1, hs.2, okE0 rel k _ (.bl _)⟩
           · cases h
         · cases h)
      | (cases h)
      | contradiction
def opNe (hu : X.A.units + 64 < cLine) : OpOk X (compareOp .NotEq) (cmpR .NotEq) where
  r := _
  op := op_ne.or (op_neD hu)
  go := by
    intro T st g σ H d e x v w Q rel h rd re k
    simp only [cmpR, Option.map_eq_some_iff] at h
    obtain ⟨b, h, rfl⟩ := h
    simp only [cmpop] at h
    split at h
    all_goals first
      | contradiction
      | (cases h
         rename_i y z _
         have e1 := rd.str
         have e2 := re.str
         subst e1
         subst e2
         refine .inl ⟨rfl, ?_⟩
         rw [show (decide (V.str y = V.str z) : Bool) = decide (y = z) from by by_cases q : y = z <;> simp [q]]
         exact okE0 rel k _ (.bl _))
      | skip
    all_goals first
      | (split at h
         · rename_i a b' h1 h2
           split at h
           · rename_i hs
             cases h
             exact .inr ⟨a, b', rd.dp rel h1, re.dp rel h2, hs.1, hs.2, okE0 rel k _ (.bl _)⟩
           · cases h
         · cases h)
      | (cases h)
      | contradiction
theorem RpS.isN {d : D} {v : V} (r : RpS g H d v) : decide (v = .non) = match d with
    | .non => true
    | _ => false := by
  rcases r with r | ⟨xs, a, vs, rfl, rfl, h, q⟩
  · cases r <;> rfl
  · rfl
def opIs : OpOk X (compareOp .Is) (cmpR .Is) where
  r := _
  op := op_isN.or op_isBl
  go := by
    intro T st g σ H d e x v w Q rel h rd re k
    simp only [cmpR, Option.map_eq_some_iff] at h
    obtain ⟨b, h, rfl⟩ := h
    cases e with
    | non =>
      refine .inl ⟨re.non, ?_⟩
      rw [rd.isN]
      have z := okE0 rel k
      cases d <;> cases h <;> exact z _ (.bl _)
    | bl y =>
      cases d with
      | bl z =>
        cases h
        exact .inr ⟨z, y, rd.bl, re.bl, okE0 rel k _ (.bl _)⟩
      | _ => cases h
    | _ => cases d <;> cases h
def opIsN : OpOk X (compareOp .IsNot) (cmpR .IsNot) where
  r := _
  op := op_notN.or op_notBl
  go := by
    intro T st g σ H d e x v w Q rel h rd re k
    simp only [cmpR, Option.map_eq_some_iff] at h
    obtain ⟨b, h, rfl⟩ := h
    cases e with
    | non =>
      refine .inl ⟨re.non, ?_⟩
      rw [rd.isN]
      have z := okE0 rel k
      cases d <;> cases h <;> exact z _ (.bl _)
    | bl y =>
      cases d with
      | bl z =>
        cases h
        exact .inr ⟨z, y, rd.bl, re.bl, okE0 rel k _ (.bl _)⟩
      | _ => cases h
    | _ => cases d <;> cases h
end
end Rf
/-! Rf5: the rules for expressions: each one says that the evaluator's answer is the machine's -/
namespace Rf
open PySem PySem.Spec L2
abbrev cl (P : Prg) (k : Nat) := callN P k
/-- an expression and its inner form -/
def SE (P : Prg) (k : Nat) (T : Tbs) (X : Cx) (W : WX) (e : Expr) (a : I) : Prop := ∀ n, PE X e (tEv T X W ((ev P (cl P k) n).e a))
def SP (P : Prg) (k : Nat) (T : Tbs) (X : Cx) (W : WX) (e : Expr) (a : I) : Prop := ∀ n, PE X e (tPv T X W (eP (ev P (cl P k) n) a))
def ST (P : Prg) (k : Nat) (T : Tbs) (X : Cx) (W : WX) (e : Expr) (a : I) : Prop := ∀ n, PT X e (tTv T X W ((ev P (cl P k) n).t a))
def SW (P : Prg) (k : Nat) (T : Tbs) (X : Cx) (W : WX) (e : Expr) (a : I) : Prop := ∀ n, PW X e (tTv T X W ((ev P (cl P k) n).t a))
def SA (P : Prg) (k : Nat) (T : Tbs) (X : Cx) (W : WX) (es : List Expr) (as : List I) : Prop := ∀ n, PA X es (tAv T X W (eA (ev P (cl P k) n) as))
def SPs (P : Prg) (k : Nat) (T : Tbs) (X : Cx) (W : WX) (es : List Expr) (as : List I) : Prop := ∀ n, PA X es (tPsv T X W (ePs (ev P (cl P k) n) as))
section
variable {P : Prg} {k : Nat} {T : Tbs} {X : Cx} {W : WX} {e a b c : Expr} {es : List Expr} {i ia ib ic : I} {is : List I} {pos p p2 : Pos} {x : Str}
theorem se_mk {t : Nat → TE} (h : ∀ n, PE X e (t n)) (w : ∀ n σ H Q st g, RD T X W (E1 (cl P k) (ev P (cl P k) n) i) st g σ H (okE Q) → t n σ H Q) : SE P k T X W e i := fun n =>
  match n with
  | 0 => pe_void fun σ H Q ⟨st, g, q⟩ => q.no
  | n + 1 => pe_weak (h n) fun σ H Q ⟨st, g, q⟩ => w n σ H Q st g q
theorem st_mk {t : Nat → TT} (h : ∀ n, PT X e (t n)) (w : ∀ n σ H (Q : Bool → Hp → Prop) st g, RD T X W (T1 (ev P (cl P k) n) i) st g σ H (fun b _ _ H => Q b H) → t n σ H Q) : ST P k T X W e i := fun n =>
  match n with
  | 0 => pt_void fun σ H Q ⟨st, g, q⟩ => q.no
  | n + 1 => pt_weak (h n) fun σ H Q ⟨st, g, q⟩ => w n σ H Q st g q
theorem sw_mk {t : Nat → TT} (h : ∀ n, PW X e (t n)) (w : ∀ n σ H (Q : Bool → Hp → Prop) st g, RD T X W (T1 (ev P (cl P k) n) i) st g σ H (fun b _ _ H => Q b H) → t n σ H Q) : SW P k T X W e i := fun n =>
  match n with
  | 0 => ⟨fun wh pins s σ H Q I ⟨st, g, q⟩ => q.no.elim⟩
  | n + 1 => pw_weak (h n) fun σ H Q ⟨st, g, q⟩ => w n σ H Q st g q
/-- a value that is handed on: a new list is frozen -/
theorem okE_d {Q : VK} {α : Type} {f : R → Ev α} {OK : α → Sx → GS → Hp → Prop} {st : Sx} {g : GS} {σ : L2.St} {H : Hp} {m : Ev R} (h : RD T X W (m.bind f) st g σ H OK)
    (q : ∀ r st' g' H' v, Rel T X st' g' σ H' → Step g H g' H' → Rp g' r.d v → RD T X W (f r) st' g' σ H' OK → Q v H') : RD T X W m st g σ H (okE Q) :=
  h.bind.mono fun r st' g' H' s rel' h' v rv => by
    obtain ⟨g2, s2, rel2, rp⟩ := RpR.val rel' rv
    obtain ⟨_, res, e, kk⟩ := h'
    exact q r st' g2 H' v rel2 (s.trans s2) rp ⟨rel2, res, e, kk.shift s2⟩
/-! ### constants and names -/
theorem se_int {j : Nat} {z : Int} : SE P k T X W (.Constant (.int z) j pos) (.cst (.int z)) := se_mk (fun _ => pe_int) fun n σ H Q st g h => RD.ok0 (T := T) (X := X) (W := W) (a := R.val (.int z)) h _ (.int z)
theorem se_bl {j : Nat} {z : Bool} : SE P k T X W (.Constant (.bool z) j pos) (.cst (.bl z)) := se_mk (fun _ => pe_bl) fun n σ H Q st g h => RD.ok0 (T := T) (X := X) (W := W) (a := R.val (.bl z)) h _ (.bl z)
theorem se_non {j : Nat} : SE P k T X W (.Constant .none j pos) (.cst .non) := se_mk (fun _ => pe_non) fun n σ H Q st g h => RD.ok0 (T := T) (X := X) (W := W) (a := R.val .non) h _ .non
theorem se_str {j : Nat} {z : Str} : SE P k T X W (.Constant (.str z) j pos) (.cst (.str z)) := se_mk (fun _ => pe_str) fun n σ H Q st g h => RD.ok0 (T := T) (X := X) (W := W) (a := R.val (.str z)) h _ (.str z)
/-- a module's constant, a def -/
def GlbOk (X : Cx) (x : Str) (d : D) : Prop := ∃ u v, X.mg x = some u ∧ RelV v u ∧ ∀ g : GS, g.K = X.K → g.mg = X.mg → Rp g d v
theorem se_glb {d : D} (hc : GlbOk X x d) (hg : Gl X x := by rfl) (hd : (x == ("__debug__" : Str)) = false := by decide) : SE P k T X W (.Name x pos) (.glb x d) := by
  obtain ⟨u, v, hm, r, rp⟩ := hc
  exact se_mk (fun _ => pe_glob hg hm r hd) fun n σ H Q st g h => RD.ok0 (T := T) (X := X) (W := W) (a := R.val d) h v (rp g h.1.K h.1.mg)
theorem sp_var (j : Nat) (hN : X.N[j]? = some x := by rfl) (hv : Vis X.env.scope x := by first | exact Or.inl rfl | exact Or.inr (Or.inl rfl) | exact Or.inr (Or.inr rfl)) (hd : (x == ("__debug__" : Str)) = false := by decide) (hcd : (x == ("__classdict__" : Str)) = false := by decide) :
    SP P k T X W (.Name x pos) (.var j) := fun n => pe_weak (pe_var hN hv hd hcd) fun σ H Q ⟨st, g, h⟩ => by
  obtain ⟨rel, res, e, kk⟩ := h
  have e : getP j st = some res := e
  unfold getP at e
  cases hb : st.env[j]? with
  | none => rw [hb] at e; cases e
  | some b =>
    have bd := rel.bd j b hb
    rw [hb] at e
    cases b with
    | un => cases e
    | val d =>
      cases e
      obtain ⟨v, e1, _⟩ := bd
      exact ⟨v, e1, kk g H (.refl _ _) rel v e1⟩
    | own xs =>
      cases e
      obtain ⟨vs, e1, _⟩ := bd
      exact ⟨_, e1, kk g H (.refl _ _) rel _ e1⟩
    | lent xs =>
      cases e
      obtain ⟨vs, e1, _⟩ := bd
      exact ⟨_, e1, kk g H (.refl _ _) rel _ e1⟩
theorem getV_rd {j : Nat} {st : Sx} {g : GS} {σ : L2.St} {H : Hp} {Q : VK} (h : RD T X W (getV j) st g σ H (okE Q)) : ∃ v, σ[j]? = some (some v) ∧ Q v H := by
  obtain ⟨rel, res, e, kk⟩ := h
  unfold getV at e
  cases hb : st.env[j]? with
  | none => rw [hb] at e; cases e
  | some b =>
    have bd := rel.bd j b hb
    rw [hb] at e
    cases b with
    | un => cases e
    | val d =>
      cases e
      obtain ⟨v, e1, r⟩ := bd
      exact ⟨v, e1, kk g H (.refl _ _) rel v r⟩
    | own xs =>
      cases e
      obtain ⟨g', s, rel', v, e1, r⟩ := rel.frzOwn hb
      exact ⟨v, e1, kk g' H s rel' v r⟩
    | lent xs => cases e
theorem se_var (j : Nat) (hN : X.N[j]? = some x := by rfl) (hv : Vis X.env.scope x := by first | exact Or.inl rfl | exact Or.inr (Or.inl rfl) | exact Or.inr (Or.inr rfl)) (hd : (x == ("__debug__" : Str)) = false := by decide) (hcd : (x == ("__classdict__" : Str)) = false := by decide) :
    SE P k T X W (.Name x pos) (.var j) := se_mk (fun _ => pe_var hN hv hd hcd) fun n σ H Q st g h => getV_rd h
/-- any expression as a place -/
theorem sp_of (h : SE P k T X W e i) (hi : ∀ r : Rec, eP r i = (r.e i).bind fun x => Ev.ok (.tmp x.d) := by intro _; rfl) : SP P k T X W e i := fun n => pe_weak (h n) fun σ H Q ⟨st, g, q⟩ => by
  rw [hi] at q
  exact ⟨st, g, okE_d q fun r st' g' H' v rel s rp q' => q'.ok0 v rp⟩
/-! ### operators -/
theorem se_bin {o : Operator} (O : OpOk X (binaryOp o) (fun _ => binop o)) (ha : SP P k T X W a ia) (hb : SP P k T X W b ib) : SE P k T X W (.BinOp a o b pos) (.bin o ia ib) :=
  se_mk (fun n => pe_op O.op (ha n) (hb n)) fun n σ H Q st g h => ⟨st, g, h.bind.mono fun p st1 g1 H1 s1 rel1 h1 v rv => ⟨st1, g1, h1.bind.mono fun q st2 g2 H2 s2 rel2 h2 w rw => by
    obtain ⟨d, rd, k1⟩ := resP_ok h2.bind (rv.mono s2.gr)
    have h3 := k1 _ _ (.refl _ _) rel2
    obtain ⟨e, re, k2⟩ := resP_ok h3.bind rw
    have h4 := k2 _ _ (.refl _ _) rel2
    obtain ⟨x, ex, k3⟩ := h4.of
    exact O.go rel2 ex rd re k3⟩⟩
theorem RD.ofR {α : Type} {o : Option α} {f : α → R} {OK : R → Sx → GS → Hp → Prop} {st : Sx} {g : GS} {σ : L2.St} {H : Hp} (h : RD T X W ((Ev.of o).bind fun a => Ev.ok (f a)) st g σ H OK) : ∃ x, o.map f = some x ∧ ∀ g' H', Step g H g' H' → Rel T X st g' σ H' → OK x st g' H' := by
  obtain ⟨a, e, kk⟩ := h.bind.of
  exact ⟨f a, by rw [e]; rfl, fun g' H' s rel => (kk g' H' s rel).ok g' H' (.refl _ _) rel⟩
theorem se_cmp {o : CmpOp} (O : OpOk X (compareOp o) (cmpR o)) (ha : SP P k T X W a ia) (hb : SP P k T X W b ib) (hm : behindInMarks o b = false := by rfl) : SE P k T X W (.Compare a [o] [b] pos) (.cmp o ia ib) :=
  se_mk (fun n => pe_cmpR O.op (ha n) (hb n) hm) fun n σ H Q st g h => ⟨st, g, h.bind.mono fun p st1 g1 H1 s1 rel1 h1 v rv => ⟨st1, g1, h1.bind.mono fun q st2 g2 H2 s2 rel2 h2 w rw => by
    obtain ⟨d, rd, k1⟩ := resP_ok h2.bind (rv.mono s2.gr)
    have h3 := k1 _ _ (.refl _ _) rel2
    obtain ⟨e, re, k2⟩ := resP_ok h3.bind rw
    have h4 := (k2 _ _ (.refl _ _) rel2).sto
    obtain ⟨x, ex, k3⟩ := RD.ofR h4
    exact O.go rel2 ex rd re k3⟩⟩
theorem st_cmp {o : CmpOp} (O : OpOk X (compareOp o) (cmpR o)) (ha : SP P k T X W a ia) (hb : SP P k T X W b ib) (hm : behindInMarks o b = false := by rfl) : ST P k T X W (.Compare a [o] [b] pos) (.cmp o ia ib) :=
  st_mk (fun n => pt_cmpR O.op (ha n) (hb n) hm) fun n σ H Q st g h => ⟨st, g, h.bind.mono fun p st1 g1 H1 s1 rel1 h1 v rv => ⟨st1, g1, h1.bind.mono fun q st2 g2 H2 s2 rel2 h2 w rw => by
    obtain ⟨d, rd, k1⟩ := resP_ok h2.bind (rv.mono s2.gr)
    have h3 := k1 _ _ (.refl _ _) rel2
    obtain ⟨e, re, k2⟩ := resP_ok h3.bind rw
    have h4 := (k2 _ _ (.refl _ _) rel2).sto
    obtain ⟨x, ex, k3⟩ := h4.of
    exact O.go (x := .val (.bl x)) rel2 (by show (cmpop _ _ _ _).map _ = _; rw [ex]; rfl) rd re fun g' H' s rel v rv => by
      cases rv
      exact ⟨x, rfl, k3 g' H' s rel⟩⟩⟩
theorem chain_go {o o' : CmpOp} (O : OpOk X (compareOp o) (cmpR o)) (O' : OpOk X (compareOp o') (cmpR o')) {n : Nat} {σ : L2.St} {H : Hp} {Q : Bool → Hp → Prop} {st : Sx} {g : GS}
    (h : RD T X W ((((ev P (cl P k) n).e ia)).bind fun x => ((ev P (cl P k) n).e ib).bind fun y => sto fun S => (Ev.of (cmpop S o x.d y.d)).bind fun k' =>
      if k' = true then ((ev P (cl P k) n).e ic).bind fun z => sto fun S => Ev.of (cmpop S o' y.d z.d) else Ev.ok false) st g σ H (fun b _ _ H => Q b H)) :
    tTest (tChain O.r O'.r (tEv T X W ((ev P (cl P k) n).e ia)) (tEv T X W ((ev P (cl P k) n).e ib)) (tEv T X W ((ev P (cl P k) n).e ic))) σ H Q :=
  ⟨st, g, okE_d h fun x st1 g1 H1 v rel1 s1 rv h1 => ⟨st1, g1, okE_d h1 fun y st2 g2 H2 w rel2 s2 rw h2 => by
    obtain ⟨b, eb, k3⟩ := h2.sto.bind.of
    refine O.go (x := .val (.bl b)) rel2 (by show (cmpop _ _ _ _).map _ = _; rw [eb]; rfl) (.of (rv.mono s2.gr)) (.of rw) fun g' H' s rel v' rv' => ?_
    cases rv'
    refine ⟨b, rfl, ?_⟩
    have h3 := k3 g' H' s rel
    cases b with
    | false =>
      rw [if_neg Bool.false_ne_true]
      exact ⟨false, rfl, h3.ok0⟩
    | true =>
      rw [if_pos rfl]
      refine ⟨st2, g', okE_d h3 fun z st3 g3 H3 u rel3 s3 ru h4 => ?_⟩
      obtain ⟨b', eb', k4⟩ := h4.sto.of
      exact O'.go (x := .val (.bl b')) rel3 (by show (cmpop _ _ _ _).map _ = _; rw [eb']; rfl) (.of ((rw.mono s.gr).mono s3.gr)) (.of ru) fun g'' H'' s' rel' v'' rv'' => by
        cases rv''
        exact ⟨b', rfl, k4 g'' H'' s' rel'⟩⟩⟩
theorem st_chn {o o' : CmpOp} (O : OpOk X (compareOp o) (cmpR o)) (O' : OpOk X (compareOp o') (cmpR o')) (ha : SE P k T X W a ia) (hb : SE P k T X W b ib) (hc : SE P k T X W c ic) (hm : lastMarks [o, o'] [b, c] = false := by with_unfolding_all rfl) : ST P k T X W (.Compare a [o, o'] [b, c] pos) (.chn o o' ia ib ic) :=
  st_mk (fun n => pt_chain O.op O'.op (ha n) (hb n) (hc n) hm) fun n σ H Q st g h => chain_go O O' h
/-! ### truth, not, and, or -/
theorem nz_int (n : Nat) : (n != 0) = ((n : Int) != 0) := by
  rw [Bool.eq_iff_iff, bne_iff_ne, bne_iff_ne]
  omega
theorem truD_ok {st : Sx} {g : GS} {σ : L2.St} {H : Hp} {d : D} {v : V} {b : Bool} (rel : Rel T X st g σ H) (r : RpS g H d v) (e : truD st.S d = some b) : TruV X.K v H b := by
  rw [← rel.K]
  cases d with
  | non => cases e; rw [r.non]; rfl
  | bl z => cases e; rw [r.bl]; rfl
  | int z => cases e; rw [r.int]; rfl
  | str z =>
    simp only [truD] at e
    split at e
    · rename_i hz
      cases e
      rw [r.str]
      refine ⟨by rw [← line_eq]; exact hz, ?_⟩
      exact nz_int _
    · cases e
  | tup xs =>
    cases e
    obtain ⟨p, vs, rfl, h1, h2⟩ := r.tup rel.wd
    refine .inr (.inl ⟨vs, h1, ?_⟩)
    cases h2 <;> rfl
  | lst xs =>
    cases e
    obtain ⟨p, vs, rfl, h1, h2⟩ := r.lst rel.wd
    refine .inl ⟨vs, SqL.of h1, ?_⟩
    cases h2 <;> rfl
  | _ => cases e
theorem st_tru (h : SP P k T X W e i) (he : ∀ whole, isTrue e X.env whole = (do let v ← whole; standAt e.pos; holding [v] (truthy v)) := by intro _; rfl)
    (hi : ∀ r : Rec, T1 r i = (eP r i).bind fun p => (resP p).bind fun x => sto fun S => Ev.of (truD S x) := by intro _; rfl) : ST P k T X W e i :=
  st_mk (fun n => pt_truth (h n) he) fun n σ H Q st g q => by
    rw [hi] at q
    exact ⟨st, g, q.bind.mono fun p st1 g1 H1 s1 rel1 h1 v rv => by
      obtain ⟨d, rd, k1⟩ := resP_ok h1.bind rv
      obtain ⟨b, eb, k2⟩ := (k1 _ _ (.refl _ _) rel1).sto.of0
      exact ⟨b, truD_ok rel1 rd eb, k2⟩⟩
theorem se_nt (ha : SP P k T X W a ia) : SE P k T X W (.UnaryOp .Not a pos) (.nt ia) := se_mk (fun n => pe_notT (ha n)) fun n σ H Q st g q =>
  ⟨st, g, q.bind.mono fun p st1 g1 H1 s1 rel1 h1 v rv => by
    obtain ⟨d, rd, k1⟩ := resP_ok h1.bind rv
    obtain ⟨b, eb, k2⟩ := (k1 _ _ (.refl _ _) rel1).sto.bind.of0
    exact ⟨b, truD_ok rel1 rd eb, k2.ok0 _ (.bl _)⟩⟩
theorem st_nt (ha : ST P k T X W a ia) : ST P k T X W (.UnaryOp .Not a pos) (.nt ia) := st_mk (fun n => pt_not (ha n)) fun n σ H Q st g q =>
  ⟨st, g, q.bind.mono fun b st1 g1 H1 s1 rel1 h1 => h1.ok0⟩
theorem se_one {op : BoolOp} (ha : SE P k T X W a ia) : SE P k T X W (.BoolOp op [a] pos) ia := fun n => pe_one (ha n)
theorem se_and (ha : SE P k T X W a ia) (hb : SE P k T X W (.BoolOp .And (b :: es) pos) ib) : SE P k T X W (.BoolOp .And (a :: b :: es) pos) (.and ia ib) := se_mk (fun n => pe_and (ha n) (hb n)) fun n σ H Q st g q =>
  ⟨st, g, okE_d q fun r st1 g1 H1 v rel1 s1 rv h1 => by
    cases hd : r.d with
    | bl z =>
      rw [hd] at rv h1
      cases rv
      refine ⟨z, rfl, ?_⟩
      cases z with
      | true => rw [if_pos rfl]; exact ⟨st1, g1, h1⟩
      | false => rw [if_neg Bool.false_ne_true]; exact h1.ok0 _ (.bl _)
    | _ => rw [hd] at h1; exact h1.no.elim⟩
theorem se_or (ha : SE P k T X W a ia) (hb : SE P k T X W (.BoolOp .Or (b :: es) pos) ib) : SE P k T X W (.BoolOp .Or (a :: b :: es) pos) (.or ia ib) := se_mk (fun n => pe_or (ha n) (hb n)) fun n σ H Q st g q =>
  ⟨st, g, okE_d q fun r st1 g1 H1 v rel1 s1 rv h1 => by
    cases hd : r.d with
    | bl z =>
      rw [hd] at rv h1
      cases rv
      refine ⟨z, rfl, ?_⟩
      cases z with
      | true => rw [if_pos rfl]; exact h1.ok0 _ (.bl _)
      | false => rw [if_neg Bool.false_ne_true]; exact ⟨st1, g1, h1⟩
    | _ => rw [hd] at h1; exact h1.no.elim⟩
theorem sw_and1 (ha : ST P k T X W a ia) : SW P k T X W (.BoolOp .And [a] pos) ia := fun n => pw_and1 (ha n)
theorem sw_or1 (ha : ST P k T X W a ia) : SW P k T X W (.BoolOp .Or [a] pos) ia := fun n => pw_or1 (ha n)
theorem sw_and (ha : ST P k T X W a ia) (hb : SW P k T X W (.BoolOp .And (b :: es) pos) ib) : SW P k T X W (.BoolOp .And (a :: b :: es) pos) (.and ia ib) := sw_mk (fun n => pw_and (ha n) (hb n)) fun n σ H Q st g q =>
  ⟨st, g, q.bind.mono fun z st1 g1 H1 s1 rel1 h1 => by
    cases z with
    | true => rw [if_pos rfl] at h1 ⊢; exact ⟨st1, g1, h1⟩
    | false => rw [if_neg Bool.false_ne_true] at h1 ⊢; exact h1.ok0⟩
theorem sw_or (ha : ST P k T X W a ia) (hb : SW P k T X W (.BoolOp .Or (b :: es) pos) ib) : SW P k T X W (.BoolOp .Or (a :: b :: es) pos) (.or ia ib) := sw_mk (fun n => pw_or (ha n) (hb n)) fun n σ H Q st g q =>
  ⟨st, g, q.bind.mono fun z st1 g1 H1 s1 rel1 h1 => by
    cases z with
    | true => rw [if_pos rfl] at h1 ⊢; exact h1.ok0
    | false => rw [if_neg Bool.false_ne_true] at h1 ⊢; exact ⟨st1, g1, h1⟩⟩
theorem st_bool {op : BoolOp} (h : SW P k T X W (.BoolOp op es pos) i) : ST P k T X W (.BoolOp op es pos) i := fun n => (h n).pt
theorem se_ite (hc : ST P k T X W c ic) (ha : SE P k T X W a ia) (hb : SE P k T X W b ib) : SE P k T X W (.IfExp c a b pos) (.ite ic ia ib) := se_mk (fun n => pe_ifExp (hc n) (ha n) (hb n)) fun n σ H Q st g q =>
  ⟨st, g, q.bind.mono fun z st1 g1 H1 s1 rel1 h1 => by
    cases z with
    | true => rw [if_pos rfl] at h1 ⊢; exact ⟨st1, g1, h1⟩
    | false => rw [if_neg Bool.false_ne_true] at h1 ⊢; exact ⟨st1, g1, h1⟩⟩
theorem se_neg (ha : SE P k T X W a ia) : SE P k T X W (.UnaryOp .USub a pos) (.neg ia) := se_mk (fun n => pe_un un_neg (ha n)) fun n σ H Q st g q =>
  ⟨st, g, okE_d q fun r st1 g1 H1 v rel1 s1 rv h1 => by
    obtain ⟨j, ej, k2⟩ := h1.bind.of0
    cases hd : r.d with
    | int z =>
      rw [hd] at rv ej
      cases ej
      cases rv
      exact ⟨_, rfl, k2.ok0 _ (.int _)⟩
    | _ => rw [hd] at ej; cases ej⟩
/-! ### argument lists, displays -/
theorem sa_nil : SA P k T X W [] [] := fun n => pa_weak pa_nil fun σ H Q ⟨st, g, q⟩ => q.ok0 _ .nil
theorem sa_cons (ha : SE P k T X W a ia) (hr : SA P k T X W es is) (hs : starEach (a :: es) X.env = (false, eval a X.env) :: starEach es X.env := by rfl) : SA P k T X W (a :: es) (ia :: is) := fun n => pa_weak (pa_cons (ha n) (hr n) hs) fun σ H Q ⟨st, g, q⟩ =>
  ⟨st, g, okE_d q fun r st1 g1 H1 v rel1 s1 rv h1 => ⟨st1, g1, h1.bind.mono fun ds st2 g2 H2 s2 rel2 h2 vs rvs => h2.ok0 _ (.cons (rv.mono s2.gr) rvs)⟩⟩
theorem sps_nil : SPs P k T X W [] [] := fun n => pa_weak pa_nil fun σ H Q ⟨st, g, q⟩ => q.ok0 _ .nil
theorem sps_cons (ha : SP P k T X W a ia) (hr : SPs P k T X W es is) (hs : starEach (a :: es) X.env = (false, eval a X.env) :: starEach es X.env := by rfl) : SPs P k T X W (a :: es) (ia :: is) := fun n => pa_weak (pa_cons (ha n) (hr n) hs) fun σ H Q ⟨st, g, q⟩ =>
  ⟨st, g, q.bind.mono fun p st1 g1 H1 s1 rel1 h1 v rv => ⟨st1, g1, h1.bind.mono fun ds st2 g2 H2 s2 rel2 h2 vs rvs => h2.ok0 _ (.cons (rv.mono s2.gr) rvs)⟩⟩
theorem se_tup {z : Nat} (h : SA P k T X W es is) : SE P k T X W (.Tuple es z pos) (.tup is) := se_mk (fun n => pe_tup (h n)) fun n σ H Q st g q =>
  ⟨st, g, q.bind.mono fun ds st1 g1 H1 s1 rel1 h1 vs rvs => by
    obtain ⟨hl, h2⟩ := h1.ifT
    refine ⟨by rw [← rvs.length, ← line_eq]; exact hl, fun p hp => ?_⟩
    obtain ⟨g', s2, rel2, rp⟩ := rel1.newT hp rvs
    exact h2.ok _ _ s2 rel2 _ rp⟩
theorem se_lst (h : SA P k T X W es is) : SE P k T X W (.List es pos) (.lst is) := se_mk (fun n => pe_lst (h n)) fun n σ H Q st g q =>
  ⟨st, g, q.bind.mono fun ds st1 g1 H1 s1 rel1 h1 vs rvs => by
    obtain ⟨hl, h2⟩ := h1.ifT
    refine ⟨by rw [← rvs.length, ← line_eq]; exact hl, fun p hp => ?_⟩
    obtain ⟨s2, rel2, rp⟩ := rel1.newL hp rvs
    exact h2.ok _ _ s2 rel2 _ rp⟩
end
end Rf
/-! Rf6: built-ins by values, isinstance, subscripts, slices, methods of lists, dicts -/
namespace Rf
open PySem PySem.Spec L2
/-! ### repr -/
mutual
/-- data with empty dicts -/
inductive De (K : PySem.W.Frag) (H : Hp) : V → PyData → Prop
  | non : De K H .non .none
  | bl (b : Bool) : De K H (.bl b) (.bool b)
  | int (i : Int) : De K H (.int i) (.int i)
  | str (x : Str) : De K H (.str x) (.str x)
  | lst {a : Addr} {xs : List V} {ds : List PyData} : SqL K H a xs → DeAll K H xs ds → De K H (.ref a) (.list ds)
  | tup {a : Addr} {xs : List V} {ds : List PyData} : SqT K H a xs → DeAll K H xs ds → De K H (.ref a) (.tuple ds)
  | dic {a : Addr} : H a = some (.dK []) → De K H (.ref a) (.dict [])
inductive DeAll (K : PySem.W.Frag) (H : Hp) : List V → List PyData → Prop
  | nil : DeAll K H [] []
  | cons {v : V} {vs : List V} {d : PyData} {ds : List PyData} : De K H v d → DeAll K H vs ds → DeAll K H (v :: vs) (d :: ds)
end
section
variable {X : Cx} {pins : List (Addr × Obj)} {σ : L2.St} {H : Hp} {s : Shared}
mutual
theorem De.reads (I : Inv X pins σ H s) : ∀ (d : PyData) (v : V) (u : Value), De X.K H v d → RelV v u → ∃ as, Reads s.heap u d as ∧ (noLst d = true → sysModules ∉ as)
  | .none, _, _, h, r => by
    cases h
    cases r
    exact ⟨_, Reads.none, fun _ z => nomatch z⟩
  | .bool b, _, _, h, r => by
    cases h
    cases r
    exact ⟨_, Reads.bool b, fun _ z => nomatch z⟩
  | .int i, _, _, h, r => by
    cases h
    obtain ⟨t, rfl⟩ := r
    exact ⟨_, Reads.int i t, fun _ z => nomatch z⟩
  | .str x, _, _, h, r => by
    cases h
    obtain ⟨t, rfl⟩ := r
    exact ⟨_, Reads.str x t, fun _ z => nomatch z⟩
  | .list ds, _, _, h, r => by
    cases h with
    | lst hs ha =>
      cases r
      obtain ⟨its, rv, ⟨o, n, ho, hc, _, hd⟩, _⟩ := I.list hs
      obtain ⟨as, hr, _⟩ := De.readsAll I ds _ its ha rv
      exact ⟨_, Reads.list ho hc hd hr, fun z => nomatch z⟩
  | .tuple ds, _, _, h, r => by
    cases h with
    | tup hs ha =>
      cases r
      obtain ⟨its, rv, ⟨o, ho, hc, n, hd⟩, _⟩ := I.tuple hs
      obtain ⟨as, hr, hm⟩ := De.readsAll I ds _ its ha rv
      exact ⟨_, Reads.tuple ho hc hd hr, fun z => hm (by simpa [noLst] using z)⟩
  | .dict kvs, _, _, h, r => by
    cases h with
    | dic e =>
      cases r
      obtain ⟨_, hs, vs, kv, o, es, ep, ho, hc, hd, _, hes, _⟩ := I.hok _ _ e
      cases kv
      have he : es.toList = [] := List.eq_nil_of_length_eq_zero hes.length
      refine ⟨_, Reads.dict (kvs := []) ho hc.1 hd (by rw [he]; exact ReadsAll.nil) (by rw [he]; exact ReadsAll.nil), fun _ z => ?_⟩
      have z' := List.mem_singleton.mp (show sysModules ∈ [_] from z)
      rw [← z'] at hs
      simp at hs
theorem De.readsAll (I : Inv X pins σ H s) : ∀ (ds : List PyData) (vs : List V) (us : List Value), DeAll X.K H vs ds → Vals vs us → ∃ as, ReadsAll s.heap us ds as ∧ (noLstL ds = true → sysModules ∉ as)
  | [], _, _, h, r => by
    cases h
    cases r
    exact ⟨_, ReadsAll.nil, fun _ z => nomatch z⟩
  | d :: ds, _, _, h, r => by
    cases h with
    | cons h1 h2 =>
      cases r with
      | cons r1 r2 =>
        obtain ⟨as, q1, m1⟩ := De.reads I d _ _ h1 r1
        obtain ⟨bs, q2, m2⟩ := De.readsAll I ds _ _ h2 r2
        refine ⟨_, ReadsAll.cons q1 q2, fun z => ?_⟩
        have z := Bool.and_eq_true_iff.mp (show (noLst d && noLstL ds) = true from z)
        intro q
        rcases List.mem_append.mp q with q | q
        · exact m1 z.1 q
        · exact m2 z.2 q
end
end
def rRepr (K : PySem.W.Frag) : List V → Hp → VK → Prop := fun vs H Q => ∃ v p, vs = [v] ∧ De K H v p ∧ p.showable = true ∧ p.shown.length ≤ line ∧ p.depth ≤ 60 ∧ (p.hasDict = true → noLst p = true) ∧ Q (.str p.shown) H
theorem call_repr {X : Cx} (hg : X.A.guards = some []) (hu : X.A.units + 64 < cLine) : CallR X (.builtin "repr") (rRepr X.K) := by
  intro pins s σ H vs us Q I r h
  obtain ⟨v, p, rfl, hd, h1, h2, h3, h4, q⟩ := h
  obtain ⟨u, rfl, ru⟩ := vals1 r
  rw [line_eq] at h2
  cases p with
  | none =>
    cases hd
    cases ru
    exact PySem.P.repr_of_none ⟨.str _, H, I.tok _, ⟨_, rfl⟩, q⟩
  | bool b =>
    cases hd
    cases ru
    exact PySem.P.repr_of_bool ⟨.str _, H, I.tok _, ⟨_, rfl⟩, q⟩
  | int i =>
    cases hd
    obtain ⟨t, rfl⟩ := ru
    exact PySem.P.repr_of_int (of_decide_eq_true h1) ⟨.str _, H, I.tok _, ⟨_, rfl⟩, q⟩
  | str x =>
    cases hd
    obtain ⟨t, rfl⟩ := ru
    exact PySem.P.repr_of_str (hsz := h2) ⟨.str _, H, I.tok _, ⟨_, rfl⟩, q⟩
  | list xs =>
    obtain ⟨as, hr, hm⟩ := De.reads I _ _ _ hd ru
    cases hd with
    | lst _ _ =>
      cases ru
      exact repr_of_reads' hr h1 (fun z => hm (h4 z)) hg (by omega) (fun _ _ z => z) (fun h' u tk k => ⟨.str _, H, I.kept k, ⟨_, rfl⟩, q⟩) h2
  | tuple xs =>
    obtain ⟨as, hr, hm⟩ := De.reads I _ _ _ hd ru
    cases hd with
    | tup _ _ =>
      cases ru
      exact repr_of_reads' hr h1 (fun z => hm (h4 z)) hg (by omega) (fun _ _ z => z) (fun h' u tk k => ⟨.str _, H, I.kept k, ⟨_, rfl⟩, q⟩) h2
  | dict xs =>
    obtain ⟨as, hr, hm⟩ := De.reads I _ _ _ hd ru
    cases hd with
    | dic _ =>
      cases ru
      exact repr_of_reads' hr h1 (fun z => hm (h4 z)) hg (by omega) (fun _ _ z => z) (fun h' u tk k => ⟨.str _, H, I.kept k, ⟨_, rfl⟩, q⟩) h2
section
variable {T : Tbs} {X : Cx} {st : Sx} {g : GS} {σ : L2.St} {H : Hp}
mutual
theorem de_of {S : Sto} (w : Wd g H S) : ∀ {d : D} {v : V} {p : PyData}, Rp g d v → d.pd S = some p → De g.K H v p
  | .non, _, _, .non, e => by cases e; exact .non
  | .bl b, _, _, .bl _, e => by cases e; exact .bl b
  | .int b, _, _, .int _, e => by cases e; exact .int b
  | .str b, _, _, .str _, e => by cases e; exact .str b
  | .tup xs, _, _, .tup h q, e => by
    simp only [D.pd, Option.map_eq_some_iff] at e
    obtain ⟨ps, e1, e2⟩ := e
    subst e2
    exact .tup (sqT_mono w.sub h) (deL_of w q e1)
  | .lst xs, _, _, .lst h q, e => by
    simp only [D.pd, Option.map_eq_some_iff] at e
    obtain ⟨ps, e1, e2⟩ := e
    subst e2
    exact .lst (SqL.of (w.sub _ _ h)) (deL_of w q e1)
  | .cel n, _, _, .cel h, e => by
    simp only [D.pd] at e
    split at e
    · rename_i hz
      cases e
      rw [List.getD_eq_getElem?_getD] at hz
      cases hs : S[n]? with
      | none => rw [hs] at hz; cases hz
      | some kvs =>
        rw [hs] at hz
        obtain ⟨k, e1, e2⟩ := w.cel n _ kvs h hs
        cases kvs with
        | nil =>
          cases e2
          exact .dic e1
        | cons a b => cases hz
    · cases e
  | .scr xs, _, _, .scr h q, e => by simp [D.pd] at e
  | .fn x, _, _, .fn h _, e => by simp [D.pd] at e
theorem deL_of {S : Sto} (w : Wd g H S) : ∀ {ds : List D} {vs : List V} {ps : List PyData}, RpL g ds vs → D.pdL S ds = some ps → DeAll g.K H vs ps
  | [], _, _, .nil, e => by cases e; exact .nil
  | d :: ds, _, _, .cons a b, e => by
    simp only [D.pdL] at e
    split at e
    · rename_i p ps h1 h2
      cases e
      exact .cons (de_of w a h1) (deL_of w b h2)
    · cases e
end
theorem RpS.de {d : D} {v : V} {p : PyData} (rel : Rel T X st g σ H) (r : RpS g H d v) (e : d.pd st.S = some p) : De X.K H v p := by
  rw [← rel.K]
  rcases r with r | ⟨xs, a, vs, rfl, rfl, h, q⟩
  · exact de_of rel.wd r e
  · simp only [D.pd, Option.map_eq_some_iff] at e
    obtain ⟨ps, e1, e2⟩ := e
    subst e2
    exact .lst (SqL.of h) (deL_of rel.wd q e1)
/-! ### built-ins by values -/
structure BiOk (X : Cx) (f : Value) (b : Bi) where
  r : List V → Hp → VK → Prop
  ok : CallR X f r
  go : ∀ {T : Tbs} {st : Sx} {g : GS} {σ : L2.St} {H : Hp} {ds : List D} {x : R} {vs : List V} {Q : VK}, Rel T X st g σ H → biD st.S b ds = some x → RpSs g H ds vs → (∀ g' H', Step g H g' H' → Rel T X st g' σ H' → okE Q x st g' H') → r vs H Q
theorem RpSs.one {d : D} {vs : List V} (r : RpSs g H [d] vs) : ∃ v, vs = [v] ∧ RpS g H d v := by
  cases r with
  | cons a b =>
    cases b
    exact ⟨_, rfl, a⟩
theorem RpSs.two {d e : D} {vs : List V} (r : RpSs g H [d, e] vs) : ∃ v w, vs = [v, w] ∧ RpS g H d v ∧ RpS g H e w := by
  cases r with
  | cons a b =>
    cases b with
    | cons b c =>
      cases c
      exact ⟨_, _, rfl, a, b⟩
theorem biD_one {S : Sto} {b : Bi} {ds : List D} {x : R} (h : biD S b ds = some x) (hb : b ≠ .gcd ∧ b ≠ .max2 ∧ b ≠ .min2) : ∃ d, ds = [d] := by
  obtain ⟨h1, h2, h3⟩ := hb
  match ds with
  | [] => cases b <;> simp [biD] at h
  | [d] => exact ⟨d, rfl⟩
  | d :: e :: r => cases b <;> first | exact absurd rfl h1 | exact absurd rfl h2 | exact absurd rfl h3 | (simp [biD] at h)
def biLen : BiOk X (.builtin "len") .len where
  r := _
  ok := call_len_seq.or call_len_str
  go := by
    intro T st g σ H ds x vs Q rel h r k
    obtain ⟨d, rfl⟩ := biD_one h ⟨by decide, by decide, by decide⟩
    obtain ⟨v, rfl, rd⟩ := r.one
    cases d with
    | str z =>
      simp only [biD] at h
      split at h
      · rename_i hz
        cases h
        exact .inr ⟨z, by rw [rd.str], by rw [← line_eq]; exact hz, okE0 rel k _ (.int _)⟩
      · cases h
    | tup xs =>
      cases h
      obtain ⟨p, vs, rfl, h1, h2⟩ := rd.tup rel.wd
      refine .inl ⟨p, vs, rfl, .inr (by rw [← rel.K]; exact h1), ?_⟩
      rw [← h2.length]
      exact okE0 rel k _ (.int _)
    | lst xs =>
      cases h
      obtain ⟨p, vs, rfl, h1, h2⟩ := rd.lst rel.wd
      refine .inl ⟨p, vs, rfl, .inl (SqL.of h1), ?_⟩
      rw [← h2.length]
      exact okE0 rel k _ (.int _)
    | scr xs =>
      cases h
      obtain ⟨p, vs, rfl, h1, h2⟩ := rd.scr rel.wd
      refine .inl ⟨p, vs, rfl, .inl (by rw [← rel.K]; exact h1), ?_⟩
      rw [← h2.length]
      exact okE0 rel k _ (.int _)
    | _ => cases h
def biAbs : BiOk X (.builtin "abs") .abs where
  r := _
  ok := call_abs
  go := by
    intro T st g σ H ds x vs Q rel h r k
    obtain ⟨d, rfl⟩ := biD_one h ⟨by decide, by decide, by decide⟩
    obtain ⟨v, rfl, rd⟩ := r.one
    cases d with
    | int z =>
      cases h
      exact ⟨z, by rw [rd.int], okE0 rel k _ (.int _)⟩
    | _ => cases h
def biInt : BiOk X (.type "int") .int where
  r := _
  ok := call_int1
  go := by
    intro T st g σ H ds x vs Q rel h r k
    obtain ⟨d, rfl⟩ := biD_one h ⟨by decide, by decide, by decide⟩
    obtain ⟨v, rfl, rd⟩ := r.one
    cases d with
    | int z =>
      cases h
      exact .inl ⟨z, by rw [rd.int], okE0 rel k _ (.int _)⟩
    | bl z =>
      cases h
      exact .inr ⟨z, by rw [rd.bl], okE0 rel k _ (.int _)⟩
    | _ => cases h
def biList : BiOk X (.type "list") .list where
  r := _
  ok := call_list_of
  go := by
    intro T st g σ H ds x vs Q rel h r k
    obtain ⟨d, rfl⟩ := biD_one h ⟨by decide, by decide, by decide⟩
    obtain ⟨v, rfl, rd⟩ := r.one
    cases d with
    | tup xs =>
      cases h
      obtain ⟨p, vs, rfl, h1, h2⟩ := rd.tup rel.wd
      refine ⟨p, vs, rfl, .inr (by rw [← rel.K]; exact h1), fun l hl => ?_⟩
      obtain ⟨s1, r1, o1⟩ := rel.newL hl h2
      exact k _ _ s1 r1 _ o1
    | lst xs =>
      cases h
      obtain ⟨p, vs, rfl, h1, h2⟩ := rd.lst rel.wd
      refine ⟨p, vs, rfl, .inl (SqL.of h1), fun l hl => ?_⟩
      obtain ⟨s1, r1, o1⟩ := rel.newL hl h2
      exact k _ _ s1 r1 _ o1
    | scr xs =>
      cases h
      obtain ⟨p, vs, rfl, h1, h2⟩ := rd.scr rel.wd
      refine ⟨p, vs, rfl, .inl (by rw [← rel.K]; exact h1), fun l hl => ?_⟩
      obtain ⟨s1, r1, o1⟩ := rel.newL hl h2
      exact k _ _ s1 r1 _ o1
    | _ => cases h
def biTuple : BiOk X (.type "tuple") .tuple where
  r := _
  ok := call_tuple_of
  go := by
    intro T st g σ H ds x vs Q rel h r k
    obtain ⟨d, rfl⟩ := biD_one h ⟨by decide, by decide, by decide⟩
    obtain ⟨v, rfl, rd⟩ := r.one
    cases d with
    | tup xs =>
      cases h
      obtain ⟨p, vs, rfl, h1, h2⟩ := rd.tup rel.wd
      have rp : Rp g (.tup xs) (.ref p) := by
        rcases rd with z | ⟨_, _, _, z, _⟩
        · exact z
        · cases z
      exact ⟨p, vs, rfl, .inr ⟨by rw [← rel.K]; exact h1, okE0 rel k _ rp⟩⟩
    | lst xs =>
      cases h
      obtain ⟨p, vs, rfl, h1, h2⟩ := rd.lst rel.wd
      refine ⟨p, vs, rfl, .inl ⟨SqL.of h1, fun l hl => ?_⟩⟩
      obtain ⟨g', s1, r1, o1⟩ := rel.newT hl h2
      exact k _ _ s1 r1 _ o1
    | _ => cases h
theorem allBl_ok : ∀ {ds : List D} {vs : List V} {bs : List Bool}, RpL g ds vs → allBl ds = some bs → vs = bs.map V.bl
  | [], _, _, .nil, e => by cases e; rfl
  | .bl b :: ds, _, _, .cons a q, e => by
    simp only [allBl, Option.map_eq_some_iff] at e
    obtain ⟨bs, e1, rfl⟩ := e
    cases a
    rw [allBl_ok q e1]
    rfl
theorem allInt_ok : ∀ {ds : List D} {vs : List V} {bs : List Int}, RpL g ds vs → allInt ds = some bs → vs = bs.map V.int
  | [], _, _, .nil, e => by cases e; rfl
  | .int b :: ds, _, _, .cons a q, e => by
    simp only [allInt, Option.map_eq_some_iff] at e
    obtain ⟨bs, e1, rfl⟩ := e
    cases a
    rw [allInt_ok q e1]
    rfl
def biAll (hc : X.calm = true) : BiOk X (.builtin "all") .all where
  r := _
  ok := cr_all hc
  go := by
    intro T st g σ H ds x vs Q rel h r k
    obtain ⟨d, rfl⟩ := biD_one h ⟨by decide, by decide, by decide⟩
    obtain ⟨v, rfl, rd⟩ := r.one
    cases d with
    | lst xs =>
      simp only [biD, Option.map_eq_some_iff] at h
      obtain ⟨bs, e1, rfl⟩ := h
      obtain ⟨p, vs, rfl, h1, h2⟩ := rd.lst rel.wd
      exact ⟨p, bs, rfl, by rw [← allBl_ok h2 e1]; exact SqL.of h1, okE0 rel k _ (.bl _)⟩
    | _ => cases h
def biAny (hc : X.calm = true) : BiOk X (.builtin "any") .any where
  r := _
  ok := cr_any hc
  go := by
    intro T st g σ H ds x vs Q rel h r k
    obtain ⟨d, rfl⟩ := biD_one h ⟨by decide, by decide, by decide⟩
    obtain ⟨v, rfl, rd⟩ := r.one
    cases d with
    | lst xs =>
      simp only [biD, Option.map_eq_some_iff] at h
      obtain ⟨bs, e1, rfl⟩ := h
      obtain ⟨p, vs, rfl, h1, h2⟩ := rd.lst rel.wd
      exact ⟨p, bs, rfl, by rw [← allBl_ok h2 e1]; exact SqL.of h1, okE0 rel k _ (.bl _)⟩
    | _ => cases h
def biSum (hc : X.calm = true) : BiOk X (.builtin "sum") .sum where
  r := _
  ok := cr_sum hc
  go := by
    intro T st g σ H ds x vs Q rel h r k
    obtain ⟨d, rfl⟩ := biD_one h ⟨by decide, by decide, by decide⟩
    obtain ⟨v, rfl, rd⟩ := r.one
    cases d with
    | lst xs =>
      simp only [biD, Option.map_eq_some_iff] at h
      obtain ⟨bs, e1, rfl⟩ := h
      obtain ⟨p, vs, rfl, h1, h2⟩ := rd.lst rel.wd
      exact ⟨p, bs, rfl, by rw [← allInt_ok h2 e1]; exact SqL.of h1, okE0 rel k _ (.int _)⟩
    | _ => cases h
def biRepr (hg : X.A.guards = some []) (hu : X.A.units + 64 < cLine) : BiOk X (.builtin "repr") .repr where
  r := _
  ok := call_repr hg hu
  go := by
    intro T st g σ H ds x vs Q rel h r k
    obtain ⟨d, rfl⟩ := biD_one h ⟨by decide, by decide, by decide⟩
    obtain ⟨v, rfl, rd⟩ := r.one
    simp only [biD] at h
    split at h
    · rename_i p hp
      split at h
      · rename_i hz
        cases h
        exact ⟨v, p, rfl, rd.de rel hp, hz.1, hz.2.1, hz.2.2.1, hz.2.2.2, okE0 rel k _ (.str _)⟩
      · cases h
    · cases h
theorem biD_two {S : Sto} {b : Bi} {ds : List D} {x : R} (h : biD S b ds = some x) (hb : b = .gcd ∨ b = .max2 ∨ b = .min2) : ∃ i j, ds = [.int i, .int j] := by
  rcases hb with rfl | rfl | rfl <;>
  · match ds with
    | [] => simp [biD] at h
    | [d] => cases d <;> simp [biD] at h
    | [d, e] => cases d <;> cases e <;> first | exact ⟨_, _, rfl⟩ | (simp [biD] at h)
    | d :: e :: f :: r => cases d <;> cases e <;> simp [biD] at h
def biGcd : BiOk X (.builtin "math.gcd") .gcd where
  r := _
  ok := cr_gcd
  go := by
    intro T st g σ H ds x vs Q rel h r k
    obtain ⟨i, j, rfl⟩ := biD_two h (.inl rfl)
    obtain ⟨v, w, rfl, rv, rw⟩ := r.two
    cases h
    exact ⟨i, j, by rw [rv.int, rw.int], okE0 rel k _ (.int _)⟩
def biMax (hc : X.calm = true) : BiOk X (.builtin "max") .max2 where
  r := _
  ok := call_max2 hc
  go := by
    intro T st g σ H ds x vs Q rel h r k
    obtain ⟨i, j, rfl⟩ := biD_two h (.inr (.inl rfl))
    obtain ⟨v, w, rfl, rv, rw⟩ := r.two
    cases h
    exact ⟨i, j, by rw [rv.int, rw.int], okE0 rel k _ (.int _)⟩
def biMin (hc : X.calm = true) : BiOk X (.builtin "min") .min2 where
  r := _
  ok := call_min2 hc
  go := by
    intro T st g σ H ds x vs Q rel h r k
    obtain ⟨i, j, rfl⟩ := biD_two h (.inr (.inr rfl))
    obtain ⟨v, w, rfl, rv, rw⟩ := r.two
    cases h
    exact ⟨i, j, by rw [rv.int, rw.int], okE0 rel k _ (.int _)⟩
end
section
variable {P : Prg} {k : Nat} {T : Tbs} {X : Cx} {W : WX} {e a b c : Expr} {es : List Expr} {i ia ib ic : I} {is : List I} {pos p p2 : Pos} {x : Str} {id Ty : String}
theorem bi_go {f : Value} {bb : Bi} (O : BiOk X f bb) {n : Nat} {σ : L2.St} {H : Hp} {Q : VK} {st : Sx} {g : GS} (q : RD T X W (E1 (cl P k) (ev P (cl P k) n) (.bi bb is)) st g σ H (okE Q)) : tCB O.r (tPsv T X W (ePs (ev P (cl P k) n) is)) σ H Q :=
  ⟨st, g, q.bind.mono fun ps st1 g1 H1 s1 rel1 h1 vs rvs => by
    obtain ⟨ds, rds, k1⟩ := resL_ok h1.bind rvs
    obtain ⟨x, ex, k2⟩ := (k1 _ _ (.refl _ _) rel1).sto.of
    exact O.go rel1 ex rds k2⟩
theorem se_bi {bb : Bi} (O : BiOk X (.builtin id) bb) (hm : X.mg x = none) (ha : SPs P k T X W (e :: es) is) (hg : Gl X x := by rfl) (hv : bootBuiltins x = some (.builtin id) := by decide +kernel) (hn : x ≠ "__name__" := by decide) (hdb : (x == ("__debug__" : Str)) = false := by decide)
    (he : starEach (e :: es) X.env = (false, eval e X.env) :: starEach es X.env := by rfl) (hpl : (backTo pos (starEach es X.env)).any (·.1) = false := by rfl) : SE P k T X W (.Call (.Name x p) (e :: es) [] pos) (.bi bb is) :=
  se_mk (fun n => pe_callB O.ok hg hm hv (ha n) hn hdb he hpl) fun n σ H Q st g q => bi_go O q
theorem se_biT {bb : Bi} (O : BiOk X (.type Ty) bb) (hm : X.mg x = none) (ha : SPs P k T X W (e :: es) is) (hg : Gl X x := by rfl) (hv : bootBuiltins x = some (.type Ty) := by decide +kernel) (hn : x ≠ "__name__" := by decide) (hdb : (x == ("__debug__" : Str)) = false := by decide)
    (he : starEach (e :: es) X.env = (false, eval e X.env) :: starEach es X.env := by rfl) (hpl : (backTo pos (starEach es X.env)).any (·.1) = false := by rfl) : SE P k T X W (.Call (.Name x p) (e :: es) [] pos) (.bi bb is) :=
  se_mk (fun n => pe_callTy O.ok hg hm hv (ha n) hn hdb he hpl) fun n σ H Q st g q => bi_go O q
theorem se_biF {bb : Bi} (O : BiOk X (.builtin id) bb) (hm : X.mg x = some (.builtin id)) (ha : SPs P k T X W (e :: es) is) (hg : Gl X x := by rfl) (hdb : (x == ("__debug__" : Str)) = false := by decide)
    (he : starEach (e :: es) X.env = (false, eval e X.env) :: starEach es X.env := by rfl) (hpl : (backTo pos (starEach es X.env)).any (·.1) = false := by rfl) : SE P k T X W (.Call (.Name x p) (e :: es) [] pos) (.bi bb is) :=
  se_mk (fun n => pe_callBfun O.ok hg hm (ha n) hdb he hpl) fun n σ H Q st g q => bi_go O q
/-! ### isinstance -/
theorem tyX_of {st : Sx} {g : GS} {σ : L2.St} {H : Hp} {d : D} {v : V} {t : String} (rel : Rel T X st g σ H) (r : RpS g H d v) (e : tyD d = some t) : TyX X.K H v (.type t) := by
  cases d with
  | non => cases e; rw [r.non]; exact .base .non
  | bl z => cases e; rw [r.bl]; exact .base (.bl z)
  | int z => cases e; rw [r.int]; exact .base (.int z)
  | str z => cases e; rw [r.str]; exact .base (.str z)
  | tup xs =>
    cases e
    obtain ⟨p, vs, rfl, h1, h2⟩ := r.tup rel.wd
    rcases h1 with (h1 | ⟨o, h1⟩) | ⟨o, its, n, h1, h3, _⟩
    · exact .base (.tup h1)
    · exact .fTuple h1
    · exact .kTuple (by rw [← rel.K]; exact h1) h3
  | lst xs =>
    cases e
    obtain ⟨p, vs, rfl, h1, h2⟩ := r.lst rel.wd
    exact .base (.lst h1)
  | cel n =>
    cases e
    obtain ⟨a, rfl, h1⟩ := r.cel
    have hm : a ∈ g.mu := List.mem_of_getElem? h1
    obtain ⟨kvs, h2⟩ := rel.muH hm
    exact .base (.dK h2)
  | _ => cases e
theorem isi_go {st : Sx} {g : GS} {σ : L2.St} {H : Hp} {n : Nat} {ts : List String} {Q : VK} (q : RD T X W (E1 (cl P k) (ev P (cl P k) n) (.isi ia ts)) st g σ H (okE Q)) :
    tPv T X W (eP (ev P (cl P k) n) ia) σ H (fun v H1 => ∃ (st1 : Sx) (g1 : GS) (d : D) (t : String) (b : Bool), Rel T X st1 g1 σ H1 ∧ RpS g1 H1 d v ∧ tyD d = some t ∧ isiL t ts = some b ∧ ∀ g' H', Step g1 H1 g' H' → Rel T X st1 g' σ H' → Q (.bl b) H') :=
  ⟨st, g, q.bind.mono fun p st1 g1 H1 s1 rel1 h1 v rv => by
    obtain ⟨d, rd, k1⟩ := resP_ok h1.bind rv
    obtain ⟨t, et, k2⟩ := (k1 _ _ (.refl _ _) rel1).bind.of0
    obtain ⟨b, eb, k3⟩ := k2.bind.of
    exact ⟨st1, g1, d, t, b, rel1, rd, et, eb, fun g' H' s rel => (k3 g' H' s rel).ok0 _ (.bl _)⟩⟩
theorem isiL_any {K : PySem.W.Frag} {t : String} : ∀ {ts : List String} {b : Bool}, isiL t ts = some b → PySem.W.kitAny K (.type t) (ts.map Value.type) = some b
  | [], b, e => by cases e; exact kitAny_nil
  | c :: r, b, e => by
    simp only [isiL] at e
    split at e
    · rename_i h
      cases e
      exact kitAny_cons (kit_ty h) (fun z => nomatch z) fun _ => rfl
    · rename_i h
      exact kitAny_cons (kit_ty h) (fun _ => isiL_any e) fun z => nomatch z
    · cases e
theorem se_isi1 {y : Str} {t : String} (hm : X.mg "isinstance" = none) (hmt : X.mg y = none) (ha : SP P k T X W a ia) (hg : Gl X "isinstance" := by rfl) (hgt : Gl X y := by rfl) (hv : bootBuiltins "isinstance" = some (.builtin "isinstance") := by decide +kernel) (hvt : bootBuiltins y = some (.type t) := by decide +kernel)
    (hny : y ≠ "__name__" := by decide) (hdy : (y == ("__debug__" : Str)) = false := by decide)
    (he : starEach [a, .Name y p2] X.env = (false, eval a X.env) :: starEach [.Name y p2] X.env := by rfl) (he2 : starEach [.Name y p2] X.env = (false, eval (.Name y p2) X.env) :: starEach [] X.env := by rfl) (hpl : (backTo pos (starEach [.Name y p2] X.env)).any (·.1) = false := by rfl) :
    SE P k T X W (.Call (.Name "isinstance" p) [a, .Name y p2] [] pos) (.isi ia [t]) :=
  se_mk (fun n => pe_callB call_isi hg hm hv (pa_cons (ha n) (pa_cons (pe_bltn (v := .ty t) hgt hmt hvt rfl hny hdy) pa_nil he2) he) (by decide) (by decide) he hpl) fun n σ H Q st g q => by
    obtain ⟨st0, g0, h⟩ := isi_go q
    refine ⟨st0, g0, h.mono fun p st1 g1 H1 s1 rel1 h1 v rv => ?_⟩
    obtain ⟨st2, g2, d, t', b, rel2, rd, et, eb, kq⟩ := h1 v rv
    refine ⟨v, .ty t, .type t', .type t, b, rfl, .ty t, tyX_of rel2 rd et, ?_, kq _ _ (.refl _ _) rel2⟩
    simp only [isiL] at eb
    split at eb
    · rename_i hk; cases eb; exact kit_ty hk
    · rename_i hk; cases eb; exact kit_ty hk
    · cases eb
end
end Rf
/-! Rf7: subscripts, slices, methods of lists, dicts -/
namespace Rf
open PySem PySem.Spec L2
section
variable {T : Tbs} {X : Cx} {W : WX} {st : Sx} {g : GS} {σ : L2.St} {H : Hp}
theorem RpS.new0 {p : Addr} {o : HO} {d : D} {v : V} (r : RpS g H d v) (n : H p = none) : RpS g (upd H p o) d v := by
  rcases r with r | ⟨xs, a, vs, e, ev, h, q⟩
  · exact .inl r
  · exact .inr ⟨xs, a, vs, e, ev, by rw [upd_ne (ne_of_none h n)]; exact h, q⟩
theorem tabs_upd {T : List (Addr × Str)} {F : Hp} {a : Addr} {o u : HO} (t : TabsG T F H) (h : H a = some o) (n1 : ∀ ps, o ≠ .tbl ps) : TabsG T F (upd H a u) := t.ext (fun _ _ h => h) (fun _ _ _ h => h) fun b ps e => by
  rw [upd_ne fun z => by rw [z, h] at e; exact n1 ps (Option.some.inj e)]
  exact e
theorem lst_tbl {vs : List V} : ∀ ps, HO.lst vs ≠ .tbl ps := fun ps z => nomatch z
theorem lst_code {vs : List V} : ∀ c q, HO.lst vs ≠ LamX.CodeO c q := fun c q z => by
  unfold LamX.CodeO at z
  cases z
theorem dk_tbl {vs : List (Key × V)} : ∀ ps, HO.dK vs ≠ .tbl ps := fun ps z => nomatch z
theorem dk_code {vs : List (Key × V)} : ∀ c q, HO.dK vs ≠ LamX.CodeO c q := fun c q z => by
  unfold LamX.CodeO at z
  cases z
theorem own_set {env : List Bd} {i : Nat} {ys : List D} {j : Nat} (hi : Own env i) (h : Own (env.set i (.own ys)) j) : Own env j := by
  by_cases e : j = i
  · rw [e]; exact hi
  · obtain ⟨xs, h⟩ := h
    rw [List.getElem?_set_ne (Ne.symm e)] at h
    exact ⟨xs, h⟩
/-- a list of ours is changed -/
theorem Rel.setOwn {i : Nat} {xs ys : List D} {ws : List V} (r : Rel T X st g σ H) (e : st.env[i]? = some (.own xs)) (q : RpL g ys ws) :
    Step g H g (upd H (g.om i) (.lst ws)) ∧ Rel T X { st with env := st.env.set i (.own ys) } g σ (upd H (g.om i) (.lst ws)) := by
  obtain ⟨vs, e1, h1, h2, h3, h4, h5⟩ := r.bd i _ e
  have hi : i < st.env.length := (List.getElem?_eq_some_iff.mp e).1
  have ow : Own st.env i := ⟨xs, .inl e⟩
  have nz : ∀ b, H b ≠ none → upd H (g.om i) (.lst ws) b ≠ none := fun b hb => by
    by_cases z : b = g.om i
    · rw [z, upd_same]; intro y; cases y
    · rw [upd_ne z]; exact hb
  refine ⟨⟨.refl g, rfl, rfl, rfl, fun _ _ h => .inl h, fun _ h => .inl h, fun b o h hb _ _ => ?_, nz⟩, ⟨r.tb, r.K, r.mg, r.lm, ⟨fun b o h => ?_, r.wd.nof, r.wd.nd, r.wd.len, fun n a kvs q1 q2 => ?_, fun b hb => nz b (r.wd.dom b hb), tabs_upd r.wd.tabs h1 lst_tbl⟩, by simpa using r.len, fun j b ej => ?_, fun j k hj hk => r.inj j k (own_set ow hj) (own_set ow hk), fun p hp => ?_⟩⟩
  · rw [upd_ne fun z => hb (by rw [z]; exact h5)]
    exact h
  · rw [upd_ne fun z => by rw [z, h3] at h; cases h]
    exact r.wd.sub b o h
  · obtain ⟨k, e2, e3⟩ := r.wd.cel n a kvs q1 q2
    exact ⟨k, by rw [upd_ne fun z => h4 (by rw [← z]; exact List.mem_of_getElem? q1)]; exact e2, e3⟩
  · by_cases hj : j = i
    · subst hj
      rw [List.getElem?_set_self hi] at ej
      cases ej
      exact ⟨ws, e1, upd_same, q, h3, h4, h5⟩
    · rw [List.getElem?_set_ne (Ne.symm hj)] at ej
      refine (r.bd j b ej).step (.refl g) fun ho => ?_
      have owj := own_one ej ho
      obtain ⟨us, q1, q2, q3, q4⟩ := r.owns owj
      exact ⟨rfl, by rw [upd_ne fun z => hj (r.inj j i owj ow z)], q2, q3, q4⟩
  · obtain ⟨a, b, c⟩ := r.lam p hp
    have hne : i ≠ p.i := fun z => by
      rw [← z, e] at a
      cases a
    obtain ⟨_, f1, _⟩ := r.bd _ _ a
    have ep : g.om p.i = p.a := V.ref.inj (Option.some.inj (Option.some.inj (f1.symm.trans b)))
    refine ⟨?_, b, ?_⟩
    · show (st.env.set i _)[p.i]? = _
      rw [List.getElem?_set_ne hne]
      exact a
    · rw [upd_ne fun z => hne (r.inj _ _ ow ⟨_, .inr a⟩ (by rw [ep, ← z]))]
      exact c
theorem KvR.look : ∀ {kvs : List (Str × D)} {kvs' : List (Key × V)} {s : Str} {d : D}, KvR g kvs kvs' → kvs.lookup s = some d → ∃ v, valV kvs' (Sum.inr s) = some v ∧ Rp g d v
  | _, _, s, d, .nil, e => by cases e
  | _, _, s, d, @KvR.cons _ x d' v kvs kvs' a b, e => by
    rw [List.lookup_cons] at e
    by_cases hx : s = x
    · subst hx
      rw [beq_self_eq_true] at e
      cases e
      exact ⟨v, valV_pos rfl, a⟩
    · have hb : (s == x) = false := by simpa using hx
      rw [hb] at e
      obtain ⟨w, h1, h2⟩ := KvR.look b e
      refine ⟨w, ?_, h2⟩
      have hne : (Sum.inr x : Key) ≠ Sum.inr s := fun z => hx (Sum.inr.inj z).symm
      unfold valV at h1 ⊢
      rw [List.find?_cons]
      simp only [decide_eq_false hne]
      exact h1
theorem KvR.any : ∀ {kvs : List (Str × D)} {kvs' : List (Key × V)} {s : Str}, KvR g kvs kvs' → (kvs'.any fun kv => decide (kv.1 = (Sum.inr s : Key))) = (kvs.lookup s).isSome
  | _, _, s, .nil => rfl
  | _, _, s, @KvR.cons _ x d' v kvs kvs' a b => by
    rw [List.any_cons, List.lookup_cons, KvR.any b]
    by_cases hx : s = x
    · subst hx
      simp
    · have hb : (s == x) = false := by simpa using hx
      have hne : (Sum.inr x : Key) ≠ Sum.inr s := fun z => hx (Sum.inr.inj z).symm
      rw [hb, decide_eq_false hne]
      simp
theorem KvR.map {s : Str} {d : D} {v : V} (hv : Rp g d v) : ∀ {kvs : List (Str × D)} {kvs' : List (Key × V)}, KvR g kvs kvs' → KvR g (kvs.map fun p => if p.1 = s then (s, d) else p) (kvs'.map fun kv => if kv.1 = (Sum.inr s : Key) then (kv.1, v) else kv)
  | _, _, .nil => .nil
  | _, _, @KvR.cons _ x d' w kvs kvs' a b => by
    rw [List.map_cons, List.map_cons]
    by_cases hx : x = s
    · subst hx
      rw [if_pos rfl, if_pos rfl]
      exact .cons hv (b.map hv)
    · have hne : (Sum.inr x : Key) ≠ Sum.inr s := fun z => hx (Sum.inr.inj z)
      rw [if_neg hx, if_neg hne]
      exact .cons a (b.map hv)
theorem KvR.app : ∀ {a c : List (Str × D)} {b d : List (Key × V)}, KvR g a b → KvR g c d → KvR g (a ++ c) (b ++ d)
  | _, _, _, _, .nil, h => h
  | _, _, _, _, .cons x y, h => .cons x (y.app h)
theorem KvR.put {kvs : List (Str × D)} {kvs' : List (Key × V)} {s : Str} {d : D} {v : V} (h : KvR g kvs kvs') (hv : Rp g d v) : KvR g (kvPut kvs s d) (putK kvs' (Sum.inr s) v) := by
  unfold kvPut putK
  rw [h.any]
  split
  · exact h.map hv
  · exact h.app (.cons hv .nil)
theorem KvR.length : ∀ {a : List (Str × D)} {b : List (Key × V)}, KvR g a b → a.length = b.length
  | _, _, .nil => rfl
  | _, _, .cons _ y => by simp [y.length]
/-- a cell is changed -/
theorem Rel.setCell {n : Nat} {a : Addr} {kvs ks : List (Str × D)} {ks' : List (Key × V)} (r : Rel T X st g σ H) (hm : g.mu[n]? = some a) (hs : st.S[n]? = some kvs) (q : KvR g ks ks') :
    Step g H g (upd H a (.dK ks')) ∧ Rel T X { st with S := st.S.set n ks } g σ (upd H a (.dK ks')) := by
  obtain ⟨k0, e0, _⟩ := r.wd.cel n a kvs hm hs
  have am : a ∈ g.mu := List.mem_of_getElem? hm
  have hn : n < st.S.length := (List.getElem?_eq_some_iff.mp hs).1
  have nz : ∀ b, H b ≠ none → upd H a (.dK ks') b ≠ none := fun b hb => by
    by_cases z : b = a
    · rw [z, upd_same]; intro y; cases y
    · rw [upd_ne z]; exact hb
  refine ⟨⟨.refl g, rfl, rfl, rfl, fun _ _ h => .inl h, fun _ h => .inl h, fun b o h hb hb2 _ => ?_, nz⟩, ⟨r.tb, r.K, r.mg, r.lm, ⟨fun b o h => ?_, r.wd.nof, r.wd.nd, by simpa using r.wd.len, fun m b kvs q1 q2 => ?_, fun b hb => nz b (r.wd.dom b hb), tabs_upd r.wd.tabs e0 dk_tbl⟩, r.len, fun j b ej => (r.bd j b ej).step (.refl g) fun ho => ?_, r.inj, fun p hp => ?_⟩⟩
  · rw [upd_ne fun z => hb2 (by rw [z]; exact am)]
    exact h
  · rw [upd_ne fun z => by rw [z, r.wd.nof a am] at h; cases h]
    exact r.wd.sub b o h
  · by_cases z : m = n
    · subst z
      rw [hm] at q1
      cases q1
      have q2 : (st.S.set m ks)[m]? = some kvs := q2
      rw [List.getElem?_set_self hn] at q2
      cases q2
      exact ⟨ks', upd_same, q⟩
    · have q2 : (st.S.set n ks)[m]? = some kvs := q2
      rw [List.getElem?_set_ne (Ne.symm z)] at q2
      obtain ⟨k, e1, e2⟩ := r.wd.cel m b kvs q1 q2
      refine ⟨k, ?_, e2⟩
      rw [upd_ne fun y => z (nd_ix r.wd.nd q1 (by rw [y]; exact hm))]
      exact e1
  · have ow := own_one ej ho
    obtain ⟨us, q1, q2, q3, q4⟩ := r.owns ow
    exact ⟨rfl, by rw [upd_ne fun z => q3 (by rw [z]; exact am)], q2, q3, q4⟩
  · obtain ⟨x, y, c⟩ := r.lam p hp
    exact ⟨x, y, by rw [upd_ne fun z => by rw [z, e0] at c; cases c]; exact c⟩
/-- a new cell -/
theorem Rel.newC {p : Addr} (r : Rel T X st g σ H) (n : H p = none) : ∃ g', Step g H g' (upd H p (.dK [])) ∧ Rel T X { st with S := st.S ++ [[]] } g' σ (upd H p (.dK [])) ∧ g'.mu[st.S.length]? = some p := by
  obtain ⟨s1, r1⟩ := r.new0 (o := .dK []) n
  have gr : Gr g { g with mu := g.mu ++ [p] } := ⟨rfl, rfl, fun _ _ h => h, fun m a h => by
    show (g.mu ++ [p])[m]? = some a
    rw [List.getElem?_append_left (List.getElem?_eq_some_iff.mp h).1]
    exact h, rfl⟩
  have nm := r.nM n
  have nF := r.nF n
  refine ⟨{ g with mu := g.mu ++ [p] }, s1.trans ⟨gr, rfl, rfl, rfl, fun _ _ h => .inl h, fun a h => ?_, fun _ _ h _ _ _ => h, fun _ h => h⟩, ⟨r1.tb, r1.K, r1.mg, r1.lm.mono gr, ⟨r1.wd.sub, fun a h => ?_, ?_, ?_, fun m a kvs q1 q2 => ?_, r1.wd.dom, r1.wd.tabs⟩, r1.len, fun j b ej => (r1.bd j b ej).step gr fun ho => ?_, r1.inj, r1.lam⟩, ?_⟩
  · rcases List.mem_append.mp h with h | h
    · exact .inl h
    · rw [List.mem_singleton.mp h]
      exact .inr (r.nB n)
  · rcases List.mem_append.mp h with h | h
    · exact r1.wd.nof a h
    · rw [List.mem_singleton.mp h]
      exact nF
  · show (g.mu ++ [p]).Nodup
    exact List.nodup_append.mpr ⟨r.wd.nd, by simp, fun a ha b hb z => nm (by rw [← List.mem_singleton.mp hb, ← z]; exact ha)⟩
  · show (st.S ++ [[]]).length = (g.mu ++ [p]).length
    simp [r.wd.len]
  · have q1 : (g.mu ++ [p])[m]? = some a := q1
    have q2 : (st.S ++ [[]])[m]? = some kvs := q2
    by_cases hm : m < g.mu.length
    · rw [List.getElem?_append_left hm] at q1
      rw [List.getElem?_append_left (by rw [r.wd.len]; exact hm)] at q2
      obtain ⟨k, e1, e2⟩ := r1.wd.cel m a kvs q1 q2
      exact ⟨k, e1, e2.mono gr⟩
    · rw [List.getElem?_append_right (by omega)] at q1
      rw [List.getElem?_append_right (by rw [r.wd.len]; omega), r.wd.len] at q2
      cases hd : m - g.mu.length with
      | zero =>
        rw [hd] at q1 q2
        cases q1
        cases q2
        exact ⟨[], upd_same, .nil⟩
      | succ y =>
        rw [hd] at q1
        cases q1
  · have ow := own_one ej ho
    obtain ⟨us, q1, q2, q3, q4⟩ := r1.owns ow
    obtain ⟨us', q1', _⟩ := r.owns ow
    refine ⟨rfl, rfl, q2, fun z => ?_, q4⟩
    rcases List.mem_append.mp (show g.om j ∈ g.mu ++ [p] from z) with z | z
    · exact q3 z
    · rw [List.mem_singleton.mp z, n] at q1'
      cases q1'
  · show (g.mu ++ [p])[st.S.length]? = some p
    rw [r.wd.len]
    simp
end
section
variable {P : Prg} {k : Nat} {T : Tbs} {X : Cx} {W : WX} {e a b c : Expr} {es : List Expr} {i ia ib ic : I} {is : List I} {pos p p2 p3 : Pos} {x : Str} {id Ty : String}
/-! ### subscripts -/
theorem at_ok {g : GS} {xs : List D} {vs : List V} {z : Int} {e : D} (q : RpL g xs vs) (h : ((ixD xs.length z).bind fun j => xs[j]?) = some e) : ∃ w, atI vs z = some w ∧ Rp g e w := by
  unfold atI
  rw [← q.length]
  show ∃ w, ((ixD xs.length z).bind fun j => vs[j]?) = some w ∧ Rp g e w
  cases hj : ixD xs.length z with
  | none => rw [hj] at h; cases h
  | some j =>
    rw [hj] at h
    exact q.get h
theorem idx_ok {st : Sx} {g : GS} {σ : L2.St} {H : Hp} {d e y : D} {v u : V} (rel : Rel T X st g σ H) (rd : RpS g H d v) (ru : Rp g y u) (h : idxD d y = some e) : ∃ w, Rp g e w ∧ ∀ Q : VK, Q w H → rIxL X.K v u H Q ∨ rIxT X.K v u H Q := by
  cases y with
  | int z =>
    cases ru
    cases d with
    | lst xs =>
      obtain ⟨p, vs, rfl, h1, h2⟩ := rd.lst rel.wd
      obtain ⟨w, e1, e2⟩ := at_ok h2 h
      exact ⟨w, e2, fun Q hq => .inl ⟨p, vs, z, w, rfl, rfl, SqL.of h1, e1, hq⟩⟩
    | tup xs =>
      obtain ⟨p, vs, rfl, h1, h2⟩ := rd.tup rel.wd
      obtain ⟨w, e1, e2⟩ := at_ok h2 h
      exact ⟨w, e2, fun Q hq => .inr ⟨p, vs, z, w, rfl, rfl, by rw [← rel.K]; exact h1, e1, hq⟩⟩
    | scr xs =>
      obtain ⟨p, vs, rfl, h1, h2⟩ := rd.scr rel.wd
      obtain ⟨w, e1, e2⟩ := at_ok h2 h
      exact ⟨w, e2, fun Q hq => .inl ⟨p, vs, z, w, rfl, rfl, by rw [← rel.K]; exact h1, e1, hq⟩⟩
    | _ => cases h
  | _ => cases d <;> cases h
theorem se_idx (ha : SP P k T X W a ia) (hb : SE P k T X W b ib) (hs : PlainIx b := by exact fun _ _ => rfl) : SE P k T X W (.Subscript a b pos) (.idx ia ib) :=
  se_mk (fun n => pe_ix (ix_list.or ix_tup) (ha n) (hb n) hs) fun n σ H Q st g q => ⟨st, g, q.bind.mono fun pl st1 g1 H1 s1 rel1 h1 v rv => ⟨st1, g1, okE_d h1 fun r st2 g2 H2 u rel2 s2 ru h2 => by
    obtain ⟨d, rd, k1⟩ := resP_ok h2.bind (rv.mono s2.gr)
    obtain ⟨e, ee, k2⟩ := (k1 _ _ (.refl _ _) rel2).bind.of0
    obtain ⟨w, rw', kq⟩ := idx_ok rel2 rd ru ee
    exact kq Q (k2.ok0 w rw')⟩⟩
/-- o["k"] of a cell -/
theorem se_key {z : Str} {j : Nat} (hu : X.A.units + 1 < cLine) (ha : SE P k T X W a ia) : SE P k T X W (.Subscript a (.Constant (.str z) j p) pos) (.key ia z) :=
  se_mk (fun n => pe_dget hu (ha n) (pe_str (x := z)) (fun _ _ => rfl)) fun n σ H Q st g q => ⟨st, g, okE_d q fun r st1 g1 H1 v rel1 s1 rv h1 => by
    cases hd : r.d with
    | cel m =>
      rw [hd] at rv h1
      cases rv with
      | cel hm =>
        obtain ⟨_, res, e, kk⟩ := h1
        cases hl : (st1.S[m]?).bind fun kvs => kvs.lookup z with
        | some d =>
          simp only [hl] at e
          cases e
          obtain ⟨kvs, e1, e2⟩ := Option.bind_eq_some_iff.mp hl
          obtain ⟨kvs', e3, e4⟩ := rel1.wd.cel m _ kvs hm e1
          obtain ⟨w, e5, e6⟩ := e4.look e2
          exact ⟨_, w, rfl, by rw [← e5]; exact DGet.k (k := Sum.inr z) e3, kk g1 H1 (.refl _ _) rel1 w e6⟩
        | none =>
          simp only [hl] at e
          cases e
    | _ => rw [hd] at h1; exact h1.no.elim⟩
/-! ### slices -/
def SPo (P : Prg) (k : Nat) (T : Tbs) (X : Cx) (W : WX) (e : Option Expr) (a : Option I) : Prop := ∀ n, PO X e (fun σ H Q => ∃ st g, RD T X W (ePart (ev P (cl P k) n) a) st g σ H (fun o st' g' H' => Q o H'))
theorem spo_none : SPo P k T X W none none := fun n => ⟨fun pins s σ H Q I ⟨st, g, q⟩ => po_none.run pins s σ H Q I q.ok0⟩
theorem spo_some (h : SE P k T X W e i) : SPo P k T X W (some e) (some i) := fun n => ⟨fun pins s σ H Q I ⟨st, g, q⟩ => (po_some (h n)).run pins s σ H Q I ⟨st, g, okE_d q fun r st1 g1 H1 v rel1 s1 rv h1 => by
  obtain ⟨z, ez, k2⟩ := h1.bind.of0
  cases hd : r.d with
  | int y =>
    rw [hd] at rv ez
    cases ez
    cases rv
    exact ⟨z, rfl, k2.ok0⟩
  | _ => rw [hd] at ez; cases ez⟩⟩
theorem RpL.cut {g : GS} {xs : List D} {vs : List V} (q : RpL g xs vs) (lo hi : Option Int) : RpL g (cutD xs lo hi) (cutV vs lo hi) := by
  unfold cutD cutV
  rw [q.length]
  exact (q.drop _).take _
theorem cut_whole {xs : List D} {lo hi : Option Int} (h : HT.sIx xs.length 0 lo = 0 ∧ HT.sIx xs.length xs.length hi = xs.length) : cutD xs lo hi = xs := by
  unfold cutD
  rw [h.1, h.2]
  simp
theorem slc_ok {st : Sx} {g : GS} {σ : L2.St} {H : Hp} {d : D} {v : V} {lo hi : Option Int} {x : R} {Q : VK} (rel : Rel T X st g σ H) (rd : RpS g H d v) (h : slcD d lo hi = some x) (kq : ∀ g' H', Step g H g' H' → Rel T X st g' σ H' → okE Q x st g' H') :
    rSlL X.K v lo hi H Q ∨ rSlA X.K v lo hi H Q := by
  cases d with
  | lst xs =>
    cases h
    obtain ⟨p, vs, rfl, h1, h2⟩ := rd.lst rel.wd
    refine .inl ⟨p, vs, rfl, SqL.of h1, fun l hl => ?_⟩
    obtain ⟨s1, r1, o1⟩ := rel.newL hl (h2.cut lo hi)
    exact kq _ _ s1 r1 _ o1
  | tup xs =>
    cases h
    obtain ⟨p, vs, rfl, h1, h2⟩ := rd.tup rel.wd
    have rp : Rp g (.tup xs) (.ref p) := by
      rcases rd with z | ⟨_, _, _, z, _⟩
      · exact z
      · cases z
    refine .inr ⟨p, vs, rfl, by rw [← rel.K]; exact h1, fun z => ?_, fun _ l hl => ?_⟩
    · rw [← h2.length] at z
      have q := okE0 rel kq
      rw [cut_whole z] at q
      exact q _ rp
    · obtain ⟨g', s1, r1, o1⟩ := rel.newT hl (h2.cut lo hi)
      exact kq _ _ s1 r1 _ o1
  | _ => cases h
theorem se_slc {lo hi : Option Expr} {ilo ihi : Option I} (ha : SP P k T X W a ia) (hl : SPo P k T X W lo ilo) (hh : SPo P k T X W hi ihi) : SE P k T X W (.Subscript a (.Slice lo hi none p) pos) (.slc ia ilo ihi) :=
  se_mk (fun n => pe_slice (sl_list.or sl_tupA) (ha n) (hl n) (hh n)) fun n σ H Q st g q => ⟨st, g, q.bind.mono fun pl st1 g1 H1 s1 rel1 h1 v rv => ⟨st1, g1, h1.bind.mono fun l st2 g2 H2 s2 rel2 h2 => ⟨st2, g2, h2.bind.mono fun h st3 g3 H3 s3 rel3 h3 => by
    obtain ⟨d, rd, k1⟩ := resP_ok h3.bind ((rv.mono s2.gr).mono s3.gr)
    obtain ⟨x, ex, k2⟩ := (k1 _ _ (.refl _ _) rel3).of
    exact slc_ok rel3 rd ex k2⟩⟩⟩
theorem se_rev {j : Nat} {p4 : Pos} (ha : SP P k T X W a ia) : SE P k T X W (.Subscript a (.Slice none none (some (.UnaryOp .USub (.Constant (.int 1) j p) p2)) p3) pos) (.rev ia) :=
  fun n => match n with
  | 0 => pe_void fun σ H Q ⟨st, g, q⟩ => q.no
  | n + 1 => ⟨fun pins s σ H Q I ⟨st, g, q⟩ => by
    -- the value first: a list
    refine (pe_revL (ha n)).run pins s σ H Q I ⟨st, g, q.bind.mono fun pl st1 g1 H1 s1 rel1 h1 v rv => ?_⟩
    obtain ⟨d, rd, k1⟩ := resP_ok h1.bind rv
    have h2 := k1 _ _ (.refl _ _) rel1
    cases d with
    | lst xs =>
      obtain ⟨p, vs, rfl, h3, h4⟩ := rd.lst rel1.wd
      refine ⟨p, vs, rfl, SqL.of h3, fun l hl => ?_⟩
      obtain ⟨s2, r2, o2⟩ := rel1.newL hl h4.rev
      exact h2.ok _ _ s2 r2 _ o2
    | _ => exact h2.no.elim⟩
/-! ### len of an int's bits, append, pop -/
theorem se_bits {apos : Pos} (ha : SE P k T X W a ia) (hbase : attributeBase a "bit_length" X.env (eval a X.env) = eval a X.env := by rfl) (hline : (apos.endLine == pos.line) = true := by rfl) : SE P k T X W (.Call (.Attribute a "bit_length" apos) [] [] pos) (.bits ia) :=
  se_mk (fun n => pe_bits (ha n) hbase hline) fun n σ H Q st g q => ⟨st, g, okE_d q fun r st1 g1 H1 v rel1 s1 rv h1 => by
    obtain ⟨z, ez, k2⟩ := h1.bind.of0
    cases hd : r.d with
    | int y =>
      rw [hd] at rv ez
      cases ez
      cases rv
      exact ⟨z, rfl, k2.ok0 _ (.int _)⟩
    | _ => rw [hd] at ez; cases ez⟩
theorem getO_ok {j : Nat} {st : Sx} {g : GS} {σ : L2.St} {H : Hp} {OK : Unit → Sx → GS → Hp → Prop} (h : RD T X W (getO j) st g σ H OK) : ∃ xs vs, st.env[j]? = some (.own xs) ∧ σ[j]? = some (some (.ref (g.om j))) ∧ H (g.om j) = some (.lst vs) ∧ OK () st g H := by
  obtain ⟨rel, res, e, kk⟩ := h
  unfold getO at e
  cases hb : st.env[j]? with
  | none => rw [hb] at e; cases e
  | some b =>
    have bd := rel.bd j b hb
    rw [hb] at e
    cases b with
    | own xs =>
      cases e
      obtain ⟨vs, e1, h1, _⟩ := bd
      exact ⟨xs, vs, rfl, e1, h1, kk g H (.refl _ _) rel⟩
    | _ => cases e
theorem se_app {j : Nat} {apos : Pos} (ha : SE P k T X W a ia) (hN : X.N[j]? = some x := by rfl) (hv : Vis X.env.scope x := by first | exact Or.inl rfl | exact Or.inr (Or.inl rfl) | exact Or.inr (Or.inr rfl)) (hd : (x == ("__debug__" : Str)) = false := by decide) (hcd : (x == ("__classdict__" : Str)) = false := by decide)
    (hbase : attributeBase (.Name x p2) "append" X.env (eval (.Name x p2) X.env) = eval (.Name x p2) X.env := by rfl)
    (hfew : ((backTo pos (starEach (a :: []) X.env)).all (fun x => !x.1) && (backToKw pos (keywordEach [] X.env)).all (fun x => x.1.isSome) && decide ((a :: ([] : List Expr)).length + ([] : List Keyword).length + (if ([] : List Keyword).isEmpty then 0 else 1) < 30)) = true := by rfl)
    (hline : (apos.endLine == pos.line) = true := by rfl) (hs : starEach (a :: []) X.env = (false, eval a X.env) :: starEach [] X.env := by rfl) :
    SE P k T X W (.Call (.Attribute (.Name x p2) "append" apos) [a] [] pos) (.app j ia) :=
  se_mk (fun n => pe_bm PySem.F.plainAttrs_list PySem.F.slot_list_append PySem.F.type_list_append mt_append (pe_var hN hv hd hcd) (pa_cons (ha n) pa_nil hs) hbase hfew hline hs rfl) fun n σ H Q st g q => by
    obtain ⟨xs, vs, e1, e2, e3, h1⟩ := getO_ok q.bind
    refine ⟨_, e2, .inl ⟨rfl, vs, SqL.of e3⟩, st, g, okE_d h1 fun r st1 g1 H1 v rel1 s1 rv h2 => ?_⟩
    obtain ⟨_, res, e, kk⟩ := h2
    cases hb : st1.env[j]? with
    | none => simp only [hb] at e; cases e
    | some b =>
      simp only [hb] at e
      cases b with
      | own ys =>
        have e : (if ys.length < line then some (Except.ok (R.val .non), { st1 with env := st1.env.set j (.own (ys ++ [r.d])) }) else none) = some res := e
        split at e
        · rename_i hz
          cases e
          obtain ⟨ws, f1, f2, f3, _⟩ := rel1.bd j _ hb
          have em : g1.om j = g.om j := V.ref.inj (Option.some.inj (Option.some.inj (f1.symm.trans e2)))
          rw [← em]
          obtain ⟨s2, r2⟩ := rel1.setOwn hb (f3.app (.cons rv .nil))
          exact ⟨_, ws, v, rfl, rfl, f2, by rw [← f3.length, ← line_eq]; exact hz, kk _ _ s2 r2 _ .non⟩
        · cases e
      | _ => cases e
theorem se_pop {j : Nat} {apos : Pos} (ha : SE P k T X W a ia) (hN : X.N[j]? = some x := by rfl) (hv : Vis X.env.scope x := by first | exact Or.inl rfl | exact Or.inr (Or.inl rfl) | exact Or.inr (Or.inr rfl)) (hd : (x == ("__debug__" : Str)) = false := by decide) (hcd : (x == ("__classdict__" : Str)) = false := by decide)
    (hbase : attributeBase (.Name x p2) "pop" X.env (eval (.Name x p2) X.env) = eval (.Name x p2) X.env := by rfl)
    (hfew : ((backTo pos (starEach (a :: []) X.env)).all (fun x => !x.1) && (backToKw pos (keywordEach [] X.env)).all (fun x => x.1.isSome) && decide ((a :: ([] : List Expr)).length + ([] : List Keyword).length + (if ([] : List Keyword).isEmpty then 0 else 1) < 30)) = true := by rfl)
    (hline : (apos.endLine == pos.line) = true := by rfl) (hs : starEach (a :: []) X.env = (false, eval a X.env) :: starEach [] X.env := by rfl) :
    SE P k T X W (.Call (.Attribute (.Name x p2) "pop" apos) [a] [] pos) (.pop j ia) :=
  se_mk (fun n => pe_bm PySem.F.plainAttrs_list PySem.F.slot_list_pop PySem.F.type_list_pop mt_popAt (pe_var hN hv hd hcd) (pa_cons (ha n) pa_nil hs) hbase hfew hline hs rfl) fun n σ H Q st g q => by
    obtain ⟨xs, vs, e1, e2, e3, h1⟩ := getO_ok q.bind
    refine ⟨_, e2, .inl ⟨rfl, vs, SqL.of e3⟩, st, g, okE_d h1 fun r st1 g1 H1 v rel1 s1 rv h2 => ?_⟩
    obtain ⟨z, ez, _, res, e, kk⟩ := h2.bind.of0
    have rv : v = .int z := by
      cases hd : r.d with
      | int y =>
        rw [hd] at rv ez
        cases ez
        cases rv
        rfl
      | _ => rw [hd] at ez; cases ez
    subst rv
    cases hb : st1.env[j]? with
    | none => simp only [hb] at e; cases e
    | some b =>
      simp only [hb] at e
      cases b with
      | own ys =>
        simp only at e
        split at e
        · rename_i hz
          split at e
          · rename_i m hm
            split at e
            · rename_i d hd
              cases e
              obtain ⟨ws, f1, f2, f3, _⟩ := rel1.bd j _ hb
              have em : g1.om j = g.om j := V.ref.inj (Option.some.inj (Option.some.inj (f1.symm.trans e2)))
              rw [← em]
              obtain ⟨s2, r2⟩ := rel1.setOwn hb (f3.erase m)
              obtain ⟨y, hy, ry⟩ := f3.get hd
              have hm' : ixN ws.length z = some m := by rw [← f3.length]; exact hm
              obtain ⟨q1, q2, q3, q4⟩ := ixN_seq hm'
              have hz' : ws.length ≤ 16777216 := by rw [← f3.length]; exact hz
              exact ⟨_, ws, z, m, y, rfl, rfl, f2, by omega, by omega, q1, hy, kk _ _ s2 r2 _ ry⟩
            · cases e
          · cases e
        · cases e
      | _ => cases e
end
end Rf
/-! Rx: errors made and raised -/
namespace Rf
open PySem PySem.Spec L2 PyProof.Rows
/-! ### Base.__init__(self, text), Base a class of the module without its own -/
theorem sinB_ok {K : PySem.W.Frag} {C0 : Addr} (h : sinB K C0 = true) : PySem.W.specialIn K (.ref C0) "__getattribute__" = some (some (.builtin "type.__getattribute__")) ∧ PySem.W.typeIn K (.ref C0) = some (.type "type") ∧ PySem.W.readsIn K C0 (.type "type") = true ∧ PySem.W.findCls K (.ref C0) (.type "type") "__init__" = some (.val (.builtin "ValueError.__init__")) := by
  obtain ⟨h1, h⟩ := Bool.and_eq_true_iff.mp h
  obtain ⟨h2, h⟩ := Bool.and_eq_true_iff.mp h
  obtain ⟨h3, h4⟩ := Bool.and_eq_true_iff.mp h
  refine ⟨of_decide_eq_true h1, of_decide_eq_true h2, h3, ?_⟩
  split at h4
  · rename_i z e
    rw [e, of_decide_eq_true h4]
  · cases h4
section
variable {X : Cx} {e a b c : Expr} {es : List Expr} {ta : TA} {pos p p1 p2 p3 p4 p5 : Pos} {x y z : Str}
theorem pe_sinit {C0 : Addr} {pl : Sem Bool} (hm : X.mg x = some (.ref C0)) (hs : sinB X.K C0 = true) (ha : PA X (e :: es) ta) (hg : Gl X x := by rfl) (hdb : (x == ("__debug__" : Str)) = false := by decide)
    (hc : eval (.Call (.Attribute (.Name x p1) "__init__" p2) (e :: es) [] pos) X.env = (do
      let ov ← eval (.Name x p1) X.env
      standAt p2.atName
      let (f, first) ← holding [ov] (getMethod ov "__init__" pl)
      callWith pos f first (backTo pos (starEach (e :: es) X.env)) (backToKw pos (keywordEach [] X.env))) := by rfl)
    (he : starEach (e :: es) X.env = (false, eval e X.env) :: starEach es X.env := by rfl) (hpl : (backTo pos (starEach es X.env)).any (·.1) = false := by rfl) :
    PE X (.Call (.Attribute (.Name x p1) "__init__" p2) (e :: es) [] pos) (tVeI X.K ta) := by
  obtain ⟨q1, q2, q3, q4⟩ := sinB_ok hs
  refine ⟨fun pins s σ H Q I0 h => ?_⟩
  refine PySem.W.methodCall_KW (ld_glob I0 hg hm ?_ hdb) hc
  obtain ⟨m, fr⟩ := I0.fr
  refine PySem.W.method_of_cls fr I0.ok.mod.kin q1 (PySem.W.cls_val fr I0.ok.mod.kin q2 q3 q4 (by decide +kernel) ?_)
  show wpAny _ _ (callWith pos (Value.builtin "ValueError.__init__") [] (backTo pos (starEach (e :: es) X.env)) []) _ _ _
  refine PyProof.Rows.callWith_method1 (thn (ha.run pos pins _ σ H _ (I0.tok _) h) fun us s1 ⟨vs, H1, I1, r1, a, C, ws, ev, hl, oc, ea, q⟩ => ?_) he hpl
  subst ev
  cases r1 with
  | @cons _ u0 _ ur ra rr =>
    obtain rfl : u0 = Value.ref a := ra
    have hlen : ur.length ≤ sizeLine := by
      rw [← Paired.length rr, sizeLine_eq]
      omega
    exact oinit_ok oc I1 ea hlen fun s' J => ⟨.non, H1, J, rfl, q⟩
/-! ### fields stored, one behind another -/
def tStores (K : PySem.W.Frag) : List (Str × Nat) → TS
  | [] => tNext
  | (f, j) :: r => tSeq (tOst K f (tVar 0) (tVar j)) (tStores K r)
theorem ini_nil : PSs X [] (tStores X.K []) := pss_nil
theorem ini_cons {f : Str} {r : List (Str × Nat)} {ss : List Stmt} (j : Nat) (h : PSs X ss (tStores X.K r)) (h0 : X.N[0]? = some x := by rfl) (hj : X.N[j]? = some y := by rfl) (v0 : Vis X.env.scope x := by first | exact Or.inl rfl | exact Or.inr (Or.inl rfl)) (vj : Vis X.env.scope y := by first | exact Or.inl rfl | exact Or.inr (Or.inl rfl))
    (d0 : (x == ("__debug__" : Str)) = false := by decide) (c0 : (x == ("__classdict__" : Str)) = false := by decide) (d1 : (y == ("__debug__" : Str)) = false := by decide) (c1 : (y == ("__classdict__" : Str)) = false := by decide) (hs : swapsWith (.Name y p3) (some (.Attribute (.Name x p1) f p2)) pos.line X.env = pure false := by rfl) :
    PSs X (.Assign [.Attribute (.Name x p1) f p2] (.Name y p3) pos :: ss) (tStores X.K ((f, j) :: r)) := pss_cons (ps_ost (pe_var h0 v0 d0 c0) (pe_var hj vj d1 c1) hs) h
end
inductive Al (σ : L2.St) : List (Str × Nat) → List V → Prop
  | nil : Al σ [] []
  | cons {f : Str} {j : Nat} {L : List (Str × Nat)} {w : V} {ws : List V} : σ[j]? = some (some w) → Al σ L ws → Al σ ((f, j) :: L) (w :: ws)
theorem stores_go {K : PySem.W.Frag} {C a d : Addr} {σ : L2.St} {D : Ends} (oc : OexC K C) (h0 : σ[0]? = some (some (.ref a))) : ∀ {L : List (Str × Nat)} {ws : List V} {H : Hp} {acc : List (Str × V)}, (∀ p ∈ L, PySem.W.findIn K (.ref C) p.1 = some none) → Al σ L ws → H a = some (exo a C (some d)) → H d = some (exd d acc) → acc.length + L.length ≤ 900 → d ≠ a →
    (∀ H2, H2 a = some (exo a C (some d)) → H2 d = some (exd d (((L.map (·.1)).zip ws).reverse ++ acc)) → (∀ b, b ≠ a → b ≠ d → H2 b = H b) → D.nx σ H2) → tStores K L D σ H
  | [], _, H, acc, _, .nil, ha, hd, _, _, k => k H ha (by simpa using hd) fun _ _ _ => rfl
  | (f, j) :: L, _, H, acc, hno, @Al.cons _ _ _ _ w ws hj r, ha, hd, hl, hne, k => by
    have hl' : acc.length + (L.length + 1) ≤ 900 := hl
    refine ⟨w, hj, .ref a, h0, a, C, rfl, oc, hno _ List.mem_cons_self, .inr ⟨d, acc, ha, hd, by omega, ?_⟩⟩
    refine stores_go oc h0 (fun p hp => hno p (List.mem_cons_of_mem _ hp)) r (by rw [upd_ne (Ne.symm hne)]; exact ha) upd_same (by show (acc.length + 1) + L.length ≤ 900; omega) hne fun H2 e1 e2 e3 => ?_
    refine k H2 e1 (by rw [e2]; simp) fun b h1 h2 => ?_
    rw [e3 b h1 h2, upd_ne h2]
theorem lookup_app {α : Type} (f : Str) : ∀ (l m : List (Str × α)), (l ++ m).lookup f = match l.lookup f with
    | some v => some v
    | none => m.lookup f
  | [], m => rfl
  | (g, v) :: l, m => by
    rw [List.cons_append, List.lookup_cons, List.lookup_cons]
    cases f == g with
    | true => rfl
    | false => exact lookup_app f l m
theorem lookup_rev {α : Type} (f : Str) : ∀ {l : List (Str × α)}, (l.map (·.1)).Nodup → l.reverse.lookup f = l.lookup f
  | [], _ => rfl
  | (g, v) :: l, h => by
    rw [List.map_cons, List.nodup_cons] at h
    rw [List.reverse_cons, lookup_app, lookup_rev f h.2]
    by_cases hf : f = g
    · subst hf
      have e : l.lookup f = none := by
        cases q : l.lookup f with
        | none => rfl
        | some u => exact (h.1 (List.mem_map.mpr ⟨_, PySem.mem_of_lookup q, rfl⟩)).elim
      rw [e]
      simp [List.lookup_cons]
    · have hb : (f == g) = false := by simpa using hf
      have e : ((g, v) :: l).lookup f = l.lookup f := by rw [List.lookup_cons, hb]
      have e2 : [(g, v)].lookup f = none := by simp [List.lookup_cons, hb]
      rw [e, e2]
      cases l.lookup f <;> rfl
theorem zip_fst : ∀ {fs : List Str} {ws : List V}, ws.length = fs.length → ((fs.zip ws).map (·.1)) = fs
  | [], _, _ => by simp
  | f :: fs, [], h => by cases h
  | f :: fs, w :: ws, h => by simp [zip_fst (fs := fs) (ws := ws) (by simpa using h)]
/-- what an error's __init__ does -/
def spIni (K : PySem.W.Frag) (C : Addr) (fs : List Str) : Sp := fun vs H Q _ => ∃ a ws, vs = .ref a :: ws ∧ ws.length = fs.length ∧ H a = some (exo a C none) ∧
  ∀ d H2 acc, H d = none → H2 a = some (exo a C (some d)) → H2 d = some (exd d acc) → (∀ f, acc.lookup f = (fs.zip ws).lookup f) → (∀ b, b ≠ a → b ≠ d → H2 b = H b) → Q .non H2
theorem ini_law {K : PySem.W.Frag} {C : Addr} {fs : List Str} {L : List (Str × Nat)} {f0 : Str} {j0 : Nat} {D : Ends} {σ : L2.St} {H : Hp} {a : Addr} {ws : List V} (oc : OexC K C) (hL : fs = ((f0, j0) :: L).map (·.1)) (hnd : fs.Nodup) (hno : ∀ f ∈ fs, PySem.W.findIn K (.ref C) f = some none) (hz : fs.length ≤ 800) (h0 : σ[0]? = some (some (.ref a))) (al : Al σ ((f0, j0) :: L) ws) (ha : H a = some (exo a C none))
    (k : ∀ d H2 acc, H d = none → H2 a = some (exo a C (some d)) → H2 d = some (exd d acc) → (∀ f, acc.lookup f = (fs.zip ws).lookup f) → (∀ b, b ≠ a → b ≠ d → H2 b = H b) → D.nx σ H2) : tStores K ((f0, j0) :: L) D σ H := by
  cases al with
  | @cons _ _ _ w ws hj r =>
    have lw : ∀ {L : List (Str × Nat)} {ws : List V}, Al σ L ws → ws.length = (L.map (·.1)).length := fun {L ws} z => by
      induction z with
      | nil => rfl
      | cons _ _ ih => simpa using ih
    refine ⟨w, hj, .ref a, h0, a, C, rfl, oc, hno f0 (by rw [hL]; exact List.mem_cons_self), .inl ⟨ha, fun dx hn hne => ?_⟩⟩
    refine stores_go (a := a) (d := dx) oc h0 (fun p hp => hno p.1 (by rw [hL]; exact List.mem_cons_of_mem _ (List.mem_map.mpr ⟨p, hp, rfl⟩))) r upd_same (by rw [upd_ne hne, upd_same]) (by rw [hL] at hz; simp at hz ⊢; omega) hne fun H2 e1 e2 e3 => ?_
    refine k dx H2 _ hn e1 e2 (fun f => ?_) fun b h1 h2 => by rw [e3 b h1 h2, upd_ne h1, upd_ne h2]
    have e4 : fs.zip (w :: ws) = (f0, w) :: (L.map (·.1)).zip ws := by rw [hL]; rfl
    have e5 : ((L.map (·.1)).zip ws).reverse ++ [(f0, w)] = (fs.zip (w :: ws)).reverse := by rw [e4]; simp
    rw [e5]
    refine lookup_rev f ?_
    rw [zip_fst]
    · exact hnd
    · rw [hL]
      simp [lw r]
/-- an error class: its fields, its __init__ -/
structure XcK (Pr : Program) (w : World) (K : PySem.W.Frag) (mg : Str → Option Value) (base : Heap) (c : Str) (fs : List Str) : Prop where
  ex : ∃ (C fI : Addr) (fd : FuncData) (ps : List Str), mg c = some (.ref C) ∧ OexC K C ∧ PySem.W.findIn K (.ref C) "__init__" = some (some (.ref fI)) ∧ PySem.W.typeIn K (.ref fI) = some (.type "function") ∧ L2.Binds K fd ps [] ∧ FnOk Pr w K mg base CX0 1 fI fd ps (spIni K C fs) ∧ XfC K C ∧ (∀ f ∈ fs, PySem.W.findIn K (.ref C) f = some none) ∧ fs.Nodup ∧ fs.length ≤ 15
end Rf
/-! Rf8: what a def promises, calls, isinstance of two types, displays of dicts -/
namespace Rf
open PySem PySem.Spec L2
/-! ### what a def promises -/
/-- a result of a def, told without slots -/
def RpF (g : GS) (H : Hp) (r : R) (v : V) : Prop := RpR g H [] r v
/-- behind a call -/
def KF (g : GS) (H : Hp) (Q : VK) (E : XK) : Except Exn R × Sto → Prop
  | (.ok r, S') => ∀ g' H' v, Step g H g' H' → Wd g' H' S' → RpF g' H' r v → Q v H'
  | (.error x, S') => ∀ g' H' cls d, Step g H g' H' → Wd g' H' S' → RpX g' H' x cls d → E cls d H'
/-- the promise of the def x, k calls deep -/
def spF (P : Prg) (k : Nat) (K : PySem.W.Frag) (mg : Str → Option Value) (T : Tbs) (base : Heap) (x : Str) (N : Nat) : Sp := fun vs H Q E =>
  vs.length = N ∧ ∃ (g : GS) (S : Sto) (L : List (Option D)) (ds : List D) (res : Except Exn R × Sto), g.K = K ∧ g.mg = mg ∧ g.lam = [] ∧ g.tabs = T ∧ g.B = H ∧ Wd g H S ∧ LmOk base g L ∧ RpL g ds vs ∧ callN P k x ds L S = some res ∧ KF g H Q E res
/-- a def that keeps its promise, wherever no guard stands -/
structure FnG (Pr : Program) (w : World) (K : PySem.W.Frag) (mg : Str → Option Value) (base : Heap) (k : Nat) (f : Addr) (fd : FuncData) (ps : List Str) (sp : Sp) : Prop where
  run : ∀ (A : Around) (outer : List Env) (s : Shared) (H : Hp) (args : Args) (us : List Value) (vs : List V) (Q : VK) (E : XK), Room (k + 2) A → A.guards = some [] → Env0 Pr w K mg base A outer s H → BindsTo s fd args (ps.zip us) → Vals vs us → vs.length = ps.length →
    sp vs H Q E → codeAny (model Pr w) A (.call (.ref f) args) (CR (L2.CX Pr w) outer Pr w H s Q E) s
/-- what a def of the program keeps, k calls deep -/
structure DefK (Pr : Program) (w : World) (K : PySem.W.Frag) (mg : Str → Option Value) (base : Heap) (P : Prg) (k : Nat) (T : Tbs) (x : Str) (n : Nat) : Prop where
  ex : ∃ (f : Addr) (fd : FuncData) (ps : List Str), mg x = some (.ref f) ∧ PySem.W.keepIn K (.ref f) = true ∧ L2.Binds K fd ps [] ∧ ps.length = n ∧ FnG Pr w K mg base k f fd ps (spF P k K mg T base x n)
/-- a greater base -/
def Big (base B : Heap) : Prop := ∀ b o, base.get? b = some o → B.get? b = some o
/-- where an expression stands -/
structure XO (P : Prg) (k : Nat) (T : Tbs) (X : Cx) (W : WX) : Prop where
  nd : X.N.Nodup
  calm : X.calm = true
  tk : Takes X W
  room : Room (k + 2) X.A
  grd : X.A.guards = some []
  fns : ∀ j, j ≤ k → ∀ x df, P.defs.lookup x = some df → ∀ B, Big X.base B → DefK X.prog X.w X.K X.mg B P j T x df.ps.length
  fr : ∀ x, P.free.contains x = true → X.mg x = none
  gl : ∀ x d, P.glbs.lookup x = some d → GlbOk X x d
  bf : ∀ x id, P.bfn.lookup x = some id → X.mg x = some (.builtin id)
  ex : ∀ c fs, P.excs.lookup c = some fs → XcK X.prog X.w X.K X.mg X.base c fs
  nl : ∀ y lm, P.lams.lookup y = some lm → X.mg y = none
  em : ∀ c fs c2 fs2 C C2, P.excs.lookup c = some fs → P.excs.lookup c2 = some fs2 → X.mg c = some (.ref C) → X.mg c2 = some (.ref C2) → PySem.W.exmOne X.K (.ref C) (.ref C2) = some (decide (c = c2))
section
variable {P : Prg} {k : Nat} {T : Tbs} {X : Cx} {W : WX}
theorem XO.hu (o : XO P k T X W) : X.A.units + 64 < cLine := o.room.units
theorem XO.hu1 (o : XO P k T X W) : X.A.units + 1 < cLine := hu_of o.room
/-- in a comprehension's block -/
theorem XO.blk (o : XO P k T X W) (s : Shared) (H : Hp) (scope : Scope) (cenv : Env) (fp : List Addr) : XO P k T (X.blk s H scope cenv fp) (fun _ _ _ _ => False) :=
  ⟨o.nd, o.calm, takes0, o.room, o.grd, o.fns, o.fr, o.gl, o.bf, o.ex, o.nl, o.em⟩
/-- in a try's body -/
theorem XO.tr (o : XO P k T X W) {pn : List (Addr × Obj)} {xe : Value → Shared → Prop} {W' : WX} (tk : Takes (X.tr pn xe) W') : XO P k T (X.tr pn xe) W' :=
  ⟨o.nd, o.calm, tk, o.room, o.grd, o.fns, o.fr, o.gl, o.bf, o.ex, o.nl, o.em⟩
end
/-! ### the ghost at a call -/
section
variable {T : Tbs} {X : Cx} {W : WX} {st : Sx} {g : GS} {σ : L2.St} {H : Hp}
def GS.enter (g : GS) (H : Hp) : GS := { g with B := H, lam := [] }
def GS.leave (g g' : GS) : GS := { g' with B := g.B, lam := g.lam, om := g.om }
theorem gr_enter : Gr g (g.enter H) := ⟨rfl, rfl, fun _ _ h => h, fun _ _ h => h, rfl⟩
theorem Rel.enter (r : Rel T X st g σ H) : Wd (g.enter H) H st.S :=
  ⟨r.wd.sub, r.wd.nof, r.wd.nd, r.wd.len, fun n a kvs h1 h2 => by
    obtain ⟨q, e1, e2⟩ := r.wd.cel n a kvs h1 h2
    exact ⟨q, e1, e2.mono gr_enter⟩, fun _ h => h, r.wd.tabs⟩
theorem Rel.leave {g' : GS} {H' : Hp} {S' : Sto} (r : Rel T X st g σ H) (s : Step (g.enter H) H g' H') (w : Wd g' H' S') : Step g H (g.leave g') H' ∧ Rel T X { st with S := S' } (g.leave g') σ H' ∧ Gr g' (g.leave g') := by
  have nB : ∀ b, H b = none → g.B b = none := fun b h => r.nB h
  have gr' : Gr g' (g.leave g') := ⟨rfl, rfl, fun _ _ h => h, fun _ _ h => h, rfl⟩
  have gr : Gr g (g.leave g') := (gr_enter (g := g) (H := H)).trans (s.gr.trans gr')
  have kH : ∀ b o, H b = some o → b ∉ g.mu → (∀ ps, o ≠ .tbl ps) → H' b = some o := fun b o h hm ht => s.kB b o h (by show H b ≠ none; rw [h]; intro z; cases z) hm ht
  refine ⟨⟨gr, rfl, rfl, s.tabs, fun b o h => ?_, fun a h => ?_, fun b o h hb hm ht => kH b o h hm ht, s.kM⟩, ⟨s.tabs.trans r.tb, ?_, ?_, r.lm.mono gr, ⟨w.sub, w.nof, w.nd, w.len, fun n a kvs h1 h2 => ?_, fun b hb => s.kM b (r.wd.dom b hb), w.tabs⟩, r.len, fun i b e => (r.bd i b e).step gr fun ho => ?_, r.inj, fun p hp => ?_⟩, gr'⟩
  · rcases s.nF b o h with z | z
    · exact .inl z
    · exact .inr (nB b z)
  · rcases s.nmu a h with z | z
    · exact .inl z
    · exact .inr (nB a z)
  · exact (gr.K).trans r.K
  · exact (gr.mg).trans r.mg
  · obtain ⟨q, e1, e2⟩ := w.cel n a kvs h1 h2
    exact ⟨q, e1, e2.mono gr'⟩
  · obtain ⟨vs, h1, h2, h3, h4⟩ := r.owns (own_one e ho)
    refine ⟨rfl, by rw [kH _ _ h1 h3 lst_tbl, h1], ?_, ?_, h4⟩
    · show g'.F (g.om i) = none
      cases q : g'.F (g.om i) with
      | none => rfl
      | some o =>
        rcases s.nF _ o q with z | z
        · have z : g.F (g.om i) = some o := z
          rw [h2] at z; cases z
        · have z : H (g.om i) = none := z
          rw [h1] at z; cases z
    · intro q
      rcases s.nmu _ q with z | z
      · exact h3 z
      · have z : H (g.om i) = none := z
        rw [h1] at z; cases z
  · obtain ⟨a, b, c⟩ := r.lam p hp
    obtain ⟨_, f1, _⟩ := r.bd _ _ a
    have ep : g.om p.i = p.a := V.ref.inj (Option.some.inj (Option.some.inj (f1.symm.trans b)))
    obtain ⟨_, _, _, h3, _⟩ := r.owns ⟨_, .inr a⟩
    exact ⟨a, b, kH _ _ c (by rw [← ep]; exact h3) lst_tbl⟩
theorem RpR.leave {g' : GS} {H' : Hp} {x : R} {v : V} (r : Rel T X st g σ H) (s : Step (g.enter H) H g' H') (q : RpF g' H' x v) : RpR (g.leave g') H' st.env x v := by
  have gr' : Gr g' (g.leave g') := ⟨rfl, rfl, fun _ _ h => h, fun _ _ h => h, rfl⟩
  cases x with
  | val d => exact Rp.mono gr' q
  | fresh xs =>
    obtain ⟨a, vs, rfl, h1, h2, h3, h4, h5, _⟩ := q
    have hn : H a = none := by rw [← show g'.B a = H a from by rw [s.B]; rfl]; exact h5
    exact ⟨a, vs, rfl, h1, h2.mono gr', h3, h4, r.nB hn, r.nO hn⟩
theorem RpX.leave {g' : GS} {H' : Hp} {x : Exn} {cls : Value} {d : Option Addr} (q : RpX g' H' x cls d) : RpX (g.leave g') H' x cls d := by
  have gr' : Gr g' (g.leave g') := ⟨rfl, rfl, fun _ _ h => h, fun _ _ h => h, rfl⟩
  obtain ⟨C, dd, fs, h1, h2, h3, h4, h5⟩ := q
  refine ⟨C, dd, fs, h1, h2, h3, h4, fun f e h => ?_⟩
  obtain ⟨v, e1, e2⟩ := h5 f e h
  exact ⟨v, e1, e2.mono gr'⟩
end
/-! ### a callee's base: all that stands and is not tracked -/
def baseAt (X : Cx) (H : Hp) (s : Shared) : Heap := PySem.W.hideAll s.heap (trk s.heap H ++ frs X.stack)
section
variable {X : Cx} {pins : List (Addr × Obj)} {σ : L2.St} {H : Hp} {s : Shared}
theorem baseAt_of {b : Addr} {o : Obj} (e : (baseAt X H s).get? b = some o) : s.heap.get? b = some o ∧ H b = none ∧ b ∉ frs X.stack := by
  have e1 := PySem.W.of_hideAll _ e
  refine ⟨e1, ?_, fun hm => ?_⟩
  · cases q : H b with
    | none => rfl
    | some u =>
      have hm : b ∈ trk s.heap H ++ frs X.stack := List.mem_append_left _ (List.mem_filter.mpr ⟨List.mem_range.mpr (Heap.lt_size e1), by rw [q]; rfl⟩)
      have z : (baseAt X H s).get? b = none := PySem.W.hideAll_none _ hm
      rw [e] at z
      cases z
  · have z : (baseAt X H s).get? b = none := PySem.W.hideAll_none _ (List.mem_append_right _ hm)
    rw [e] at z
    cases z
theorem baseAt_get {b : Addr} {o : Obj} (e : s.heap.get? b = some o) (n : H b = none) (hf : b ∉ frs X.stack) : (baseAt X H s).get? b = some o :=
  PySem.W.hideAll_get _ e fun hm => by
    rcases List.mem_append.mp hm with hm | hm
    · have q : (H b).isSome = true := (List.mem_filter.mp hm).2
      rw [n] at q
      cases q
    · exact hf hm
theorem baseAt_big (I : Inv X pins σ H s) : Big X.base (baseAt X H s) := fun b o e => by
  refine baseAt_get (I.bk b o e) (I.bs b o e).2 fun hm => ?_
  rcases List.mem_cons.mp (I.stkSub b hm) with z | z
  · have h1 := Heap.lt_size e
    have h2 := Nat.le_trans I.ok.bsz I.ok.above
    rw [z] at h1
    exact absurd (Nat.lt_of_lt_of_le h1 h2) (Nat.lt_irrefl _)
  · exact I.ok.nofr e z
theorem Big.mod {K : PySem.W.Frag} {mg : Str → Option Value} {base B : Heap} (h : Big base B) (M : L2.Mod K mg base) : L2.Mod K mg B :=
  ⟨M.kin.keeps h, M.glob.keeps h, let ⟨mb, h1, h2⟩ := M.blt; ⟨mb, h1.keeps h, h2⟩, M.nolimit.keeps h⟩
theorem env0_at (I : Inv X pins σ H s) : Env0 X.prog X.w X.K X.mg (baseAt X H s) X.A X.stack s H :=
  ⟨I.ok.frames, (baseAt_big I).mod I.ok.mod, fun b o e => ⟨(baseAt_of e).1, (baseAt_of e).2.1⟩, Nat.le_of_eq (PySem.W.hideAll_size _ _), funFrames_none I.stack fun b hb => PySem.W.hideAll_none _ (List.mem_append_right _ hb), I.stkFree, I.hok, I.bare⟩
theorem LmOk.big {base B : Heap} {g : GS} {L : List (Option D)} (h : Big base B) (l : LmOk base g L) : LmOk B g L := fun i d e => by
  obtain ⟨c, u, v, h1, ⟨o, h2, h3⟩, h4⟩ := l i d e
  exact ⟨c, u, v, h1, ⟨o, h _ _ h2, h3⟩, h4⟩
end
section
variable {T : Tbs} {X : Cx} {W : WX} {st : Sx} {g : GS} {σ : L2.St} {H : Hp}
/-- the evaluator's call is what the promise asks -/
theorem call_sp {P : Prg} {k : Nat} {x : Str} {n : Nat} {ds : List D} {vs : List V} {Q : VK} {L : List (Option D)} {B : Heap} {OK : R → Sx → GS → Hp → Prop} (h : RD T X W (fun s => match callN P k x ds L s.S with
    | none => none
    | some (x, S') => some (x, { s with S := S' })) st g σ H (okE Q)) (q : RpL g ds vs) (hl : vs.length = n) (hL : LmOk B g L) : spF P k X.K X.mg T B x n vs H Q (fun cls d H' => W cls d σ H') := by
  obtain ⟨rel, res, e, kk⟩ := h
  simp only at e
  cases hc : callN P k x ds L st.S with
  | none =>
    rw [hc] at e
    cases e
  | some rs =>
    obtain ⟨r, S'⟩ := rs
    rw [hc] at e
    cases e
    refine ⟨hl, g.enter H, st.S, L, ds, _, rel.K, rel.mg, rfl, rel.tb, rfl, rel.enter, hL.mono gr_enter, q.mono gr_enter, hc, ?_⟩
    cases r with
    | ok r =>
      intro g' H' v s w rv
      obtain ⟨s1, r1, _⟩ := rel.leave s w
      exact kk _ H' s1 r1 v (show RpR (g.leave g') H' st.env r v from RpR.leave rel s rv)
    | error x =>
      intro g' H' cls d s w rx
      obtain ⟨s1, r1, _⟩ := rel.leave s w
      exact kk _ H' cls d s1 r1 rx.leave
end
section
variable {P : Prg} {k : Nat} {T : Tbs} {X : Cx} {W : WX} {e a b c : Expr} {es : List Expr} {i ia ib ic : I} {is : List I} {pos p p2 p3 p4 p5 : Pos} {x y z : Str}
/-- the callee runs, from the base that stands now; what it raises is wished at this frame's slots -/
theorem run_g {pins : List (Addr × Obj)} {σ : L2.St} {H : Hp} {s : Shared} {Q : VK} {us : List Value} {vs : List V} {f : Addr} {fd : FuncData} {ps : List Str} {sp : Sp} (o : XO P k T X W) (F : FnG X.prog X.w X.K X.mg (baseAt X H s) k f fd ps sp) (hb : L2.Binds X.K fd ps []) (I : L2.Inv X pins σ H s) (r : Vals vs us) (hl : vs.length = ps.length)
    (h : sp vs H Q (fun cls d H' => W cls d σ H')) : wpAny (model X.prog X.w) X.A (call (.ref f) us) (EP X pins σ Q) X.xe s := by
  have bs : BindsTo s fd ⟨us, []⟩ (ps.zip us) := by
    have z := hb s us I.kIn (by rw [List.append_nil, ← r.length]; exact hl)
    rw [List.append_nil] at z
    exact z
  refine wpAny_call (codeAny_mono (F.run X.A X.stack s H ⟨us, []⟩ us vs Q _ o.room o.grd (env0_at I) bs r hl h) fun res s2 q => ?_)
  cases res with
  | error ex => exact passAt o.tk σ pins H s ex s2 I q
  | ok fl =>
    cases fl with
    | ret u => exact I.after q
    | next => exact False.elim q
    | brk => exact False.elim q
    | cont => exact False.elim q
end
end Rf
/-! Rf9: calls, isinstance of two types, displays of dicts, tests that choose -/
namespace Rf
open PySem PySem.Spec L2
section
variable {P : Prg} {k : Nat} {T : Tbs} {X : Cx} {W : WX} {e a b c : Expr} {es : List Expr} {i ia ib ic : I} {is : List I} {pos p p2 p3 p4 p5 : Pos} {x y z : Str}
theorem callN_len {df : Df} {ds : List D} {L : List (Option D)} {S : Sto} {res : Except Exn R × Sto} (hf : P.defs.lookup x = some df) (h : callN P k x ds L S = some res) : ds.length = df.ps.length := by
  cases k with
  | zero => cases h
  | succ k =>
    unfold callN at h
    rw [hf] at h
    simp only at h
    split at h
    · assumption
    · cases h
/-- a call as the evaluator has it, L handed on -/
def callT (P : Prg) (k : Nat) (x : Str) (ds : List D) (L : List (Option D)) : Ev R := fun s => match callN P k x ds L s.S with
  | none => none
  | some (x, S') => some (x, { s with S := S' })
theorem call_go {st : Sx} {g : GS} {σ : L2.St} {H : Hp} {df : Df} {Q : VK} {ds : List D} {L : List (Option D)} {vs : List V} {B : Heap} (hf : P.defs.lookup x = some df) (h : RD T X W (callT P k x ds L) st g σ H (okE Q)) (q : RpL g ds vs) (hL : LmOk B g L) : spF P k X.K X.mg T B x df.ps.length vs H Q (fun cls d H' => W cls d σ H') := by
  refine call_sp (L := L) (OK := okE Q) h q ?_ hL
  obtain ⟨_, res, e, _⟩ := h
  unfold callT at e
  cases hc : callN P k x ds L st.S with
  | none =>
    rw [hc] at e
    cases e
  | some rs => exact q.length.symm.trans (callN_len hf hc)
/-- behind the arguments -/
def CalP (P : Prg) (k : Nat) (T : Tbs) (X : Cx) (W : WX) (x : Str) (σ : L2.St) (Q : VK) (vs : List V) (H : Hp) : Prop := ∃ st g ds, RpL g ds vs ∧ RD T X W (callT P k x ds st.L) st g σ H (okE Q)
theorem cal_rd {n : Nat} {σ : L2.St} {H : Hp} {Q : VK} {st : Sx} {g : GS} (q : RD T X W ((eA (ev P (cl P k) n) is).bind fun ds => callS (cl P k) x ds) st g σ H (okE Q)) : tAv T X W (eA (ev P (cl P k) n) is) σ H (CalP P k T X W x σ Q) :=
  ⟨st, g, q.bind.mono fun ds st1 g1 H1 s1 rel1 h1 vs rvs => ⟨st1, g1, ds, rvs, h1⟩⟩
theorem cal_run {pins : List (Addr × Obj)} {σ : L2.St} {H : Hp} {s : Shared} {Q : VK} {us : List Value} {vs : List V} {df : Df} {f : Addr} (o : XO P k T X W) (hf : P.defs.lookup x = some df) (hm : X.mg x = some (.ref f)) (I : L2.Inv X pins σ H s) (r : Vals vs us) (h : CalP P k T X W x σ Q vs H) : wpAny (model X.prog X.w) X.A (call (.ref f) us) (EP X pins σ Q) X.xe s := by
  obtain ⟨st, g, ds, rv, h⟩ := h
  obtain ⟨f', fd, ps, hm', hk, hb, hl, F⟩ := (o.fns k (Nat.le_refl k) x df hf _ (baseAt_big I)).ex
  rw [hm] at hm'
  cases hm'
  have sp := call_go hf h rv (h.1.lm.big (baseAt_big I))
  exact run_g o F hb I r (sp.1.trans hl.symm) sp
theorem def_at (o : XO P k T X W) {df : Df} (hf : P.defs.lookup x = some df) : ∃ f, X.mg x = some (.ref f) ∧ PySem.W.keepIn X.K (.ref f) = true := by
  obtain ⟨f, fd, ps, hm, hk, hb, hl, F⟩ := (o.fns k (Nat.le_refl k) x df hf X.base (fun _ _ h => h)).ex
  exact ⟨f, hm, hk⟩
/-- f(e, ..), f a def of the module -/
theorem se_call {df : Df} (o : XO P k T X W) (hf : P.defs.lookup x = some df) (ha : SA P k T X W (e :: es) is) (hg : Gl X x := by rfl) (hdb : (x == ("__debug__" : Str)) = false := by decide)
    (he : starEach (e :: es) X.env = (false, eval e X.env) :: starEach es X.env := by rfl) (hpl : (backTo pos (starEach es X.env)).any (·.1) = false := by rfl) : SE P k T X W (.Call (.Name x p) (e :: es) [] pos) (.call x is) := by
  refine se_mk (t := fun n σ H Q => tAv T X W (eA (ev P (cl P k) n) is) σ H (CalP P k T X W x σ Q)) (fun n => ⟨fun pins s σ H Q I h => ?_⟩) fun n σ H Q st g q => cal_rd q
  obtain ⟨f, hm, hk⟩ := def_at o hf
  refine wpAny_Call_Name_kw (ld_glob I hg hm ?_ hdb)
  refine PySem.W.callWith_K (h₀ := X.base) I.ok.mod.kin hk (thn ((ha n).run pos pins s σ H _ I h) fun us s1 ⟨vs, H1, I1, r, q⟩ => ⟨I1.kIn, ?_⟩) he hpl
  exact cal_run o hf hm I1 r q
/-- f() -/
theorem se_call0 {df : Df} (o : XO P k T X W) (hf : P.defs.lookup x = some df) (hg : Gl X x := by rfl) (hdb : (x == ("__debug__" : Str)) = false := by decide) : SE P k T X W (.Call (.Name x p) [] [] pos) (.call x []) := by
  refine se_mk (t := fun n σ H Q => CalP P k T X W x σ Q [] H) (fun n => ⟨fun pins s σ H Q I h => ?_⟩) fun n σ H Q st g q => ⟨st, g, [], .nil, q.bind.ok0⟩
  obtain ⟨f, hm, hk⟩ := def_at o hf
  refine wpAny_Call_Name_kw (ld_glob I hg hm ?_ hdb)
  exact PySem.W.callWith_K0 I.kIn hk (cal_run o hf hm I .nil h)
/-- e1(e, ..), e1 a name that holds a def -/
theorem se_callv {j : Nat} (o : XO P k T X W) (ha : SA P k T X W (e :: es) is) (hN : X.N[j]? = some x := by rfl) (hv : Vis X.env.scope x := by first | exact Or.inl rfl | exact Or.inr (Or.inl rfl) | exact Or.inr (Or.inr rfl)) (hdb : (x == ("__debug__" : Str)) = false := by decide) (hcd : (x == ("__classdict__" : Str)) = false := by decide)
    (he : starEach (e :: es) X.env = (false, eval e X.env) :: starEach es X.env := by rfl) (hpl : (backTo pos (starEach es X.env)).any (·.1) = false := by rfl) : SE P k T X W (.Call (.Name x p) (e :: es) [] pos) (.callv (.var j) is) := by
  refine se_mk (t := fun n => tEv T X W ((ev P (cl P k) (n + 1)).e (.callv (.var j) is))) (fun n => ⟨fun pins s σ H Q I h => ?_⟩) fun n σ H Q st g q => ⟨st, g, q⟩
  obtain ⟨st, g, q⟩ := h
  have sv : SE P k T X W (.Name x p) (.var j) := se_var j hN hv hdb hcd
  refine wpAny_Call_Name_kw (thn ((sv n).run pins s σ H _ I ⟨st, g, okE_d (Q := fun v H1 => ∃ y f, v = V.ref f ∧ X.mg y = some (.ref f) ∧ PySem.W.keepIn X.K (.ref f) = true ∧ tAv T X W (eA (ev P (cl P k) n) is) σ H1 fun vs H2 => CalP P k T X W y σ Q vs H2 ∧ ∃ df, P.defs.lookup y = some df) q fun r st1 g1 H1 v rel1 s1 rv h1 => ?_⟩) fun u s1 ⟨v, H1, I1, r1, y, f, e1, e2, e3, h1⟩ => ?_)
  · split at h1
    · rename_i y hd
      rw [hd] at rv
      cases rv with
      | @fn _ f hm hk =>
      refine ⟨y, f, rfl, by rw [← rel1.mg]; exact hm, by rw [← rel1.K]; exact hk, st1, g1, h1.bind.mono fun ds st2 g2 H2 s2 rel2 h2 vs rvs => ⟨⟨st2, g2, ds, rvs, h2⟩, ?_⟩⟩
      cases hy : P.defs.lookup y with
      | some df => exact ⟨df, rfl⟩
      | none =>
        exfalso
        cases hy2 : P.lams.lookup y with
        | none =>
          obtain ⟨_, res, e, _⟩ := h2
          have z : callN P k y ds st2.L st2.S = none := by
            cases k with
            | zero => rfl
            | succ k => unfold callN; rw [hy]; simp only; rw [hy2]
          unfold callS at e
          have z2 : cl P k y ds st2.L st2.S = none := z
          rw [z2] at e
          cases e
        | some lm =>
          rw [rel1.mg, o.nl y lm hy2] at hm
          cases hm
    · exact h1.no.elim
  · subst e1
    cases r1
    refine PySem.W.callWith_K (h₀ := X.base) I.ok.mod.kin e3 (thn ((ha n).run pos pins s1 σ H1 _ I1 h1) fun us s2 ⟨vs, H2, I2, r, q, df, hf⟩ => ⟨I2.kIn, ?_⟩) he hpl
    exact cal_run o hf e2 I2 r q
end
end Rf
/-! Rf10: isinstance of two types, displays of dicts, chains as values -/
namespace Rf
open PySem PySem.Spec L2
section
variable {P : Prg} {k : Nat} {T : Tbs} {X : Cx} {W : WX} {e a b c : Expr} {es : List Expr} {i ia ib ic : I} {is : List I} {pos p p2 p3 p4 p5 : Pos} {x y z : Str}
theorem se_isi2 {y y' : Str} {t t' : String} {kt : Nat} (hm : X.mg "isinstance" = none) (hmt : X.mg y = none) (hmt' : X.mg y' = none) (ha : SP P k T X W a ia) (hg : Gl X "isinstance" := by rfl) (hgt : Gl X y := by rfl) (hgt' : Gl X y' := by rfl) (hv : bootBuiltins "isinstance" = some (.builtin "isinstance") := by decide +kernel) (hvt : bootBuiltins y = some (.type t) := by decide +kernel) (hvt' : bootBuiltins y' = some (.type t') := by decide +kernel)
    (hny : y ≠ "__name__" := by decide) (hdy : (y == ("__debug__" : Str)) = false := by decide) (hny' : y' ≠ "__name__" := by decide) (hdy' : (y' == ("__debug__" : Str)) = false := by decide)
    (he : starEach [a, .Tuple [.Name y p2, .Name y' p3] kt p4] X.env = (false, eval a X.env) :: starEach [.Tuple [.Name y p2, .Name y' p3] kt p4] X.env := by rfl) (he2 : starEach [.Tuple [.Name y p2, .Name y' p3] kt p4] X.env = (false, eval (.Tuple [.Name y p2, .Name y' p3] kt p4) X.env) :: starEach [] X.env := by rfl)
    (he3 : starEach [.Name y p2, .Name y' p3] X.env = (false, eval (.Name y p2) X.env) :: starEach [.Name y' p3] X.env := by rfl) (he4 : starEach [.Name y' p3] X.env = (false, eval (.Name y' p3) X.env) :: starEach [] X.env := by rfl) (hpl : (backTo pos (starEach [.Tuple [.Name y p2, .Name y' p3] kt p4] X.env)).any (·.1) = false := by rfl) :
    SE P k T X W (.Call (.Name "isinstance" p) [a, .Tuple [.Name y p2, .Name y' p3] kt p4] [] pos) (.isi ia [t, t']) :=
  se_mk (fun n => pe_callB call_isiT hg hm hv (pa_cons (ha n) (pa_cons (pe_tup (pa_cons (pe_bltn (v := .ty t) hgt hmt hvt rfl hny hdy) (pa_cons (pe_bltn (v := .ty t') hgt' hmt' hvt' rfl hny' hdy') pa_nil he4) he3)) pa_nil he2) he) (by decide) (by decide) he hpl) fun n σ H Q st g q => by
    obtain ⟨st0, g0, h⟩ := isi_go q
    refine ⟨st0, g0, h.mono fun p st1 g1 H1 s1 rel1 h1 v rv => ?_⟩
    obtain ⟨st2, g2, d, t', b, rel2, rd, et, eb, kq⟩ := h1 v rv
    refine ⟨by show 2 ≤ sizeLine; decide, fun q hq => ?_⟩
    obtain ⟨s3, rel3⟩ := rel2.new0 (o := .tup [.ty t, .ty _]) hq
    exact ⟨v, q, _, _, _, b, rfl, upd_same, .cons (.ty t) (.cons (.ty _) .nil), tyX_of rel3 (rd.new0 hq) et, isiL_any eb, kq _ _ s3 rel3⟩
theorem se_chn {o o' : CmpOp} (O : OpOk X (compareOp o) (cmpR o)) (O' : OpOk X (compareOp o') (cmpR o')) (ha : SE P k T X W a ia) (hb : SE P k T X W b ib) (hc : SE P k T X W c ic) (hm : lastMarks [o, o'] [b, c] = false := by with_unfolding_all rfl) : SE P k T X W (.Compare a [o, o'] [b, c] pos) (.chn o o' ia ib ic) :=
  se_mk (fun n => pe_chain O.op O'.op (ha n) (hb n) (hc n) hm) fun n σ H Q st g h => ⟨st, g, okE_d h fun x st1 g1 H1 v rel1 s1 rv h1 => ⟨st1, g1, okE_d h1 fun y st2 g2 H2 w rel2 s2 rw h2 => by
    obtain ⟨b, eb, k3⟩ := h2.sto.bind.of
    refine O.go (x := .val (.bl b)) rel2 (by show (cmpop _ _ _ _).map _ = _; rw [eb]; rfl) (.of (rv.mono s2.gr)) (.of rw) fun g' H' s rel v' rv' => ?_
    cases rv'
    refine ⟨b, rfl, ?_⟩
    have h3 := k3 g' H' s rel
    cases b with
    | false =>
      rw [if_neg Bool.false_ne_true]
      exact h3.ok0 _ (.bl _)
    | true =>
      rw [if_pos rfl]
      refine ⟨st2, g', okE_d h3 fun z st3 g3 H3 u rel3 s3 ru h4 => ?_⟩
      obtain ⟨b', eb', k4⟩ := RD.ofR h4.sto
      refine O'.go (x := b') rel3 eb' (.of ((rw.mono s.gr).mono s3.gr)) (.of ru) fun g'' H'' s' rel' v'' rv'' => ?_
      exact k4 g'' H'' s' rel' v'' rv''⟩⟩
/-! ### displays of dicts -/
theorem se_dnew : SE P k T X W (.Dict [] [] pos) (.dic [] is) :=
  se_mk (fun n => pe_dnewK) fun n σ H Q st g h p hp => by
    have h : RD T X W (newCell.bind fun n => Ev.ok (.val (.cel n))) st g σ H (okE Q) := h
    obtain ⟨rel, res, e, kk⟩ := h.bind
    cases e
    obtain ⟨g', s, rel', hm⟩ := rel.newC hp
    exact (kk g' _ s rel').ok0 _ (.cel hm)
/-- pairs: written keys, values -/
def SD (P : Prg) (k : Nat) (T : Tbs) (X : Cx) (W : WX) (pos : Pos) (ks : List (Option Expr)) (vs : List Expr) (zs : List Str) (is : List I) : Prop :=
  ∀ n, ∃ trs, PPs X pos ks vs trs ∧ ∀ σ H (Q : List (V × V) → Hp → Prop) st g, RD T X W (eA (ev P (cl P k) n) is) st g σ H (okA fun us H1 => us.length = zs.length → Q ((zs.zip us).map fun q => (V.str q.1, q.2)) H1) → tPairs trs σ H Q
theorem sd_nil : SD P k T X W pos [] [] [] [] := fun n => ⟨_, pps_nil, fun σ H Q st g h => h.ok0 [] .nil rfl⟩
theorem sd_cons {ks : List (Option Expr)} {vs : List Expr} {zs : List Str} {j : Nat} (ha : SE P k T X W a ia) (hr : SD P k T X W pos ks vs zs is) : SD P k T X W pos (some (.Constant (.str z) j p) :: ks) (a :: vs) (z :: zs) (ia :: is) := fun n => by
  obtain ⟨trs, h1, h2⟩ := hr n
  refine ⟨_, pps_cons (pe_str (x := z)) (ha n) h1, fun σ H Q st g h => ?_⟩
  refine ⟨st, g, okE_d h fun r st1 g1 H1 v rel1 s1 rv h3 => ?_⟩
  refine h2 σ H1 _ st1 g1 (h3.bind.mono fun ds st2 g2 H2 s2 rel2 h4 us rus hl => ?_)
  exact h4.ok0 (v :: us) (.cons (rv.mono s2.gr) rus) (by simp [hl])
theorem lookup_none : ∀ {zs : List Str} {us : List V} {z : Str}, z ∉ zs → ((zs.zip us).map fun q => ((Sum.inr q.1 : Key), q.2)).any (fun kv => decide (kv.1 = (Sum.inr z : Key))) = false
  | [], _, _, _ => by simp
  | _ :: _, [], _, _ => by simp
  | y :: zs, u :: us, z, h => by
    rw [List.zip_cons_cons, List.map_cons, List.any_cons, lookup_none (fun q => h (List.mem_cons_of_mem _ q))]
    have : (Sum.inr y : Key) ≠ Sum.inr z := fun q => h (by rw [Sum.inr.inj q]; exact List.mem_cons_self)
    simp [this]
theorem mergeK_new : ∀ {zs : List Str} {us : List V} {acc : List (Key × V)}, zs.Nodup → (∀ z ∈ zs, acc.any (fun kv => decide (kv.1 = (Sum.inr z : Key))) = false) → mergeK acc ((zs.zip us).map fun q => ((Sum.inr q.1 : Key), q.2)) = acc ++ (zs.zip us).map fun q => ((Sum.inr q.1 : Key), q.2)
  | [], _, acc, _, _ => by simp [mergeK]
  | _ :: _, [], acc, _, _ => by simp [mergeK]
  | y :: zs, u :: us, acc, hn, h => by
    have hn' := List.nodup_cons.mp hn
    have e : putK acc (Sum.inr y) u = acc ++ [(Sum.inr y, u)] := by
      unfold putK
      rw [h y List.mem_cons_self]
      rfl
    show mergeK (putK acc (Sum.inr y) u) ((zs.zip us).map fun q => ((Sum.inr q.1 : Key), q.2)) = _
    rw [e, mergeK_new hn'.2 fun z hz => ?_]
    · rw [List.zip_cons_cons, List.map_cons, List.append_assoc]
      rfl
    · rw [List.any_append, h z (List.mem_cons_of_mem _ hz)]
      have : (Sum.inr y : Key) ≠ Sum.inr z := fun q => hn'.1 (by rw [Sum.inr.inj q]; exact hz)
      simp [this]
theorem kvR_zip {g : GS} : ∀ {zs : List Str} {ds : List D} {us : List V}, RpL g ds us → KvR g (zs.zip ds) ((zs.zip us).map fun q => ((Sum.inr q.1 : Key), q.2))
  | [], _, _, _ => .nil
  | _ :: _, _, _, .nil => by simpa using .nil
  | _ :: _, _, _, .cons a b => .cons a (kvR_zip b)
theorem se_dic {zs : List Str} {ks : List (Option Expr)} {vs : List Expr} {z0 : Str} {zr : List Str} (hz : zs = z0 :: zr) (h : SD P k T X W pos ks vs zs is) (hall : ks.all (·.isSome) = true := by rfl) (hl : ks.length = vs.length := by rfl) (h0 : ks ≠ [] := by exact fun q => nomatch q) (h15 : ks.length ≤ 15 := by decide) : SE P k T X W (.Dict ks vs pos) (.dic zs is) :=
  se_mk (t := fun n => tEv T X W (E1 (cl P k) (ev P (cl P k) n) (.dic zs is))) (fun n => by
    obtain ⟨trs, h1, h2⟩ := h n
    refine pe_weak (pe_disp h1 hall hl h0 h15) fun σ H Q ⟨st, g, q⟩ p hp => ?_
    subst hz
    have q : RD T X W (newCell.bind fun m => (eA (ev P (cl P k) n) is).bind fun ds => fun s => match s.S[m]? with
      | some [] => if (z0 :: zr).length = ds.length ∧ (z0 :: zr).Nodup ∧ (z0 :: zr).length ≤ 15 then some (.ok (.val (.cel m)), { s with S := s.S.set m ((z0 :: zr).zip ds) }) else none
      | _ => none) st g σ H (okE Q) := q
    obtain ⟨rel, res, e, kk⟩ := q.bind
    cases e
    obtain ⟨g1, s1, rel1, hm⟩ := rel.newC hp
    refine h2 σ _ _ _ g1 ((kk g1 _ s1 rel1).bind.mono fun ds st2 g2 H2 s2 rel2 h4 us rus hlen => ?_)
    obtain ⟨_, res, e, kk2⟩ := h4
    have hm2 := s2.gr.mu _ _ hm
    cases he : st2.S[st.S.length]? with
    | none => simp only [he] at e; cases e
    | some kvs =>
      cases kvs with
      | cons x y => simp only [he] at e; cases e
      | nil =>
        simp only [he] at e
        by_cases hc : (z0 :: zr).length = ds.length ∧ (z0 :: zr).Nodup ∧ (z0 :: zr).length ≤ 15
        · rw [if_pos hc] at e
          cases e
          obtain ⟨kv, hk, hk2⟩ := rel2.wd.cel _ _ _ hm2 he
          cases hk2
          refine ⟨hk, ((z0 :: zr).zip us).map fun q => ((Sum.inr q.1 : Key), q.2), by simp [kV], ?_, ?_⟩
          · have : (((z0 :: zr).zip us).map fun q => ((Sum.inr q.1 : Key), q.2)).length ≤ (z0 :: zr).length := by
              rw [List.length_map, List.length_zip]
              omega
            exact Nat.le_trans this hc.2.2
          · rw [mergeK_new hc.2.1 fun _ _ => rfl]
            obtain ⟨s3, rel3⟩ := rel2.setCell hm2 he (kvR_zip (zs := z0 :: zr) rus)
            exact kk2 g2 _ s3 rel3 _ (.cel hm2)
        · rw [if_neg hc] at e
          cases e) fun n σ H Q st g q => ⟨st, g, q⟩
end
end Rf
/-! Rf11: runs of statements; lists that are lent; names stored; what a loop walks -/
namespace Rf
open PySem PySem.Spec L2
section
variable {α β : Type} {T : Tbs} {X : Cx} {W : WX} {st : Sx} {g : GS} {σ : L2.St} {H : Hp}
/-- behind a run of statements -/
def KG (T : Tbs) (X : Cx) (W : WX) (g : GS) (H : Hp) (OK : α → Sx → GS → L2.St → Hp → Prop) : Except Exn α × Sx → Prop
  | (.ok a, st') => ∀ g' σ' H', Step g H g' H' → Rel T X st' g' σ' H' → OK a st' g' σ' H'
  | (.error x, st') => ∀ g' σ' H' cls d, Step g H g' H' → Rel T X st' g' σ' H' → RpX g' H' x cls d → W cls d σ' H'
def RG (T : Tbs) (X : Cx) (W : WX) (m : Ev α) (st : Sx) (g : GS) (σ : L2.St) (H : Hp) (OK : α → Sx → GS → L2.St → Hp → Prop) : Prop :=
  Rel T X st g σ H ∧ ∃ res, m st = some res ∧ KG T X W g H OK res
theorem KG.shift {OK : α → Sx → GS → L2.St → Hp → Prop} {g' : GS} {H' : Hp} {res : Except Exn α × Sx} (s : Step g H g' H') (k : KG T X W g H OK res) : KG T X W g' H' OK res := by
  obtain ⟨r, st'⟩ := res
  cases r with
  | ok a => exact fun g2 σ2 H2 s2 rel => k g2 σ2 H2 (s.trans s2) rel
  | error x => exact fun g2 σ2 H2 cls d s2 rel rx => k g2 σ2 H2 cls d (s.trans s2) rel rx
theorem RG.shift {m : Ev α} {OK : α → Sx → GS → L2.St → Hp → Prop} {g' : GS} {σ' : L2.St} {H' : Hp} (h : RG T X W m st g σ H OK) (s : Step g H g' H') (rel : Rel T X st g' σ' H') : RG T X W m st g' σ' H' OK := by
  obtain ⟨_, res, e, k⟩ := h
  exact ⟨rel, res, e, k.shift s⟩
theorem RG.bind {m : Ev α} {f : α → Ev β} {OK : β → Sx → GS → L2.St → Hp → Prop} (h : RG T X W (m.bind f) st g σ H OK) : RG T X W m st g σ H (fun a st' g' σ' H' => RG T X W (f a) st' g' σ' H' OK) := by
  obtain ⟨rel, res, e, k⟩ := h
  refine ⟨rel, ?_⟩
  unfold Ev.bind at e
  cases hm : m st with
  | none => rw [hm] at e; cases e
  | some r1 =>
    obtain ⟨r, st'⟩ := r1
    rw [hm] at e
    cases r with
    | error x =>
      cases e
      exact ⟨_, rfl, k⟩
    | ok a => exact ⟨_, rfl, fun g' σ' H' s rel' => ⟨rel', res, e, k.shift s⟩⟩
/-- an expression ahead -/
theorem RG.bindE {m : Ev α} {f : α → Ev β} {OK : β → Sx → GS → L2.St → Hp → Prop} (h : RG T X W (m.bind f) st g σ H OK) : RD T X W m st g σ H (fun a st' g' H' => RG T X W (f a) st' g' σ H' OK) := by
  obtain ⟨rel, res, e, k⟩ := h
  refine ⟨rel, ?_⟩
  unfold Ev.bind at e
  cases hm : m st with
  | none => rw [hm] at e; cases e
  | some r1 =>
    obtain ⟨r, st'⟩ := r1
    rw [hm] at e
    cases r with
    | error x =>
      cases e
      exact ⟨_, rfl, fun g' H' cls d s rel' rx => k g' σ H' cls d s rel' rx⟩
    | ok a => exact ⟨_, rfl, fun g' H' s rel' => ⟨rel', res, e, k.shift s⟩⟩
theorem RG.mono {m : Ev α} {OK OK' : α → Sx → GS → L2.St → Hp → Prop} (h : RG T X W m st g σ H OK) (f : ∀ a st' g' σ' H', Step g H g' H' → Rel T X st' g' σ' H' → OK a st' g' σ' H' → OK' a st' g' σ' H') : RG T X W m st g σ H OK' := by
  obtain ⟨rel, ⟨r, st'⟩, e, k⟩ := h
  refine ⟨rel, _, e, ?_⟩
  cases r with
  | ok a => exact fun g' σ' H' s rel' => f a st' g' σ' H' s rel' (k g' σ' H' s rel')
  | error x => exact k
theorem RG.ok0 {a : α} {OK : α → Sx → GS → L2.St → Hp → Prop} (h : RG T X W (Ev.ok a) st g σ H OK) : OK a st g σ H := by
  obtain ⟨rel, res, e, k⟩ := h
  cases e
  exact k g σ H (.refl g H) rel
theorem RG.no {OK : α → Sx → GS → L2.St → Hp → Prop} (h : RG T X W Ev.no st g σ H OK) : False := by
  obtain ⟨rel, res, e, k⟩ := h
  cases e
theorem RG.of0 {o : Option α} {OK : α → Sx → GS → L2.St → Hp → Prop} (h : RG T X W (Ev.of o) st g σ H OK) : ∃ a, o = some a ∧ OK a st g σ H := by
  obtain ⟨rel, res, e, k⟩ := h
  unfold Ev.of at e
  cases o with
  | none => cases e
  | some a =>
    cases e
    exact ⟨a, rfl, k g σ H (.refl g H) rel⟩
theorem RG.ifT {c : Prop} [Decidable c] {m : Ev α} {OK : α → Sx → GS → L2.St → Hp → Prop} (h : RG T X W (if c then m else Ev.no) st g σ H OK) : c ∧ RG T X W m st g σ H OK := by
  by_cases hc : c
  · rw [if_pos hc] at h
    exact ⟨hc, h⟩
  · rw [if_neg hc] at h
    exact h.no.elim
/-- a value that is handed on: a new list is frozen -/
theorem okE_g {Q : VK} {f : R → Ev α} {OK : α → Sx → GS → L2.St → Hp → Prop} {m : Ev R} (h : RG T X W (m.bind f) st g σ H OK)
    (q : ∀ r st' g' H' v, Rel T X st' g' σ H' → Step g H g' H' → Rp g' r.d v → RG T X W (f r) st' g' σ H' OK → Q v H') : RD T X W m st g σ H (okE Q) :=
  h.bindE.mono fun r st' g' H' s rel' h' v rv => by
    obtain ⟨g2, s2, rel2, rp⟩ := RpR.val rel' rv
    exact q r st' g2 H' v rel2 (s.trans s2) rp (h'.shift s2 rel2)
/-! ### other contexts with the same names -/
theorem Rel.cx {X' : Cx} (r : Rel T X st g σ H) (hK : X'.K = X.K) (hm : X'.mg = X.mg) (hB : X'.base = X.base) : Rel T X' st g σ H := ⟨r.tb, r.K.trans hK.symm, r.mg.trans hm.symm, by rw [hB]; exact r.lm, r.wd, r.len, r.bd, r.inj, r.lam⟩
theorem RD.cx {X' : Cx} {m : Ev α} {OK : α → Sx → GS → Hp → Prop} (h : RD T X W m st g σ H OK) (hK : X'.K = X.K) (hm : X'.mg = X.mg) (hB : X'.base = X.base) : RD T X' W m st g σ H OK := by
  obtain ⟨rel, ⟨r, st'⟩, e, k⟩ := h
  refine ⟨rel.cx hK hm hB, _, e, ?_⟩
  cases r with
  | ok a => exact fun g' H' s rel' => k g' H' s (rel'.cx hK.symm hm.symm hB.symm)
  | error x => exact fun g' H' cls d s rel' rx => k g' H' cls d s (rel'.cx hK.symm hm.symm hB.symm) rx
/-! ### lists lent to loops -/
def GS.lamS (g : GS) (L : List Lt) : GS := { g with lam := L }
theorem gr_lam {L : List Lt} : Gr g (g.lamS L) := ⟨rfl, rfl, fun _ _ h => h, fun _ _ h => h, rfl⟩
theorem gr_lam' {L : List Lt} : Gr (g.lamS L) g := ⟨rfl, rfl, fun _ _ h => h, fun _ _ h => h, rfl⟩
theorem Rel.lamS {L : List Lt} (r : Rel T X st g σ H) (h : ∀ p ∈ L, st.env[p.i]? = some (.lent p.xs) ∧ σ[p.i]? = some (some (.ref p.a)) ∧ H p.a = some (.lst p.vs)) : Rel T X st (g.lamS L) σ H :=
  ⟨r.tb, r.K, r.mg, r.lm.mono gr_lam, ⟨r.wd.sub, r.wd.nof, r.wd.nd, r.wd.len, fun n a kvs h1 h2 => by
    obtain ⟨q, e1, e2⟩ := r.wd.cel n a kvs h1 h2
    exact ⟨q, e1, e2.mono gr_lam⟩, r.wd.dom, r.wd.tabs⟩, r.len, fun i b e => (r.bd i b e).step gr_lam fun ho => by
    obtain ⟨vs, h1, h2, h3, h4⟩ := r.owns (own_one e ho)
    exact ⟨rfl, rfl, h2, h3, h4⟩, r.inj, h⟩
theorem Step.lamS {L : List Lt} {g' : GS} {H' : Hp} (s : Step (g.lamS L) H g' H') : Step g H (g'.lamS g.lam) H' :=
  ⟨(gr_lam (L := L)).trans (s.gr.trans gr_lam), s.B, rfl, s.tabs, s.nF, s.nmu, s.kB, s.kM⟩
theorem RpR.lamS {L : List Lt} {env env' : List Bd} {r : R} {v : V} (q : RpR g H env r v) (h : ∀ i, Own env' i → Own env i) : RpR (g.lamS L) H env' r v := by
  cases r with
  | val d => exact Rp.mono gr_lam q
  | fresh xs =>
    obtain ⟨a, vs, e, h1, h2, h3, h4, h5, h6⟩ := q
    exact ⟨a, vs, e, h1, h2.mono gr_lam, h3, h4, h5, fun i ho => h6 i (h i ho)⟩
theorem own_swap {env : List Bd} {i : Nat} {xs ys : List D} {b : Bd} (e : env[i]? = some (.own xs) ∨ env[i]? = some (.lent xs)) (hb : b = .own ys ∨ b = .lent ys) (j : Nat) : Own (env.set i b) j ↔ Own env j := by
  have hi : i < env.length := by
    rcases e with e | e <;> exact (List.getElem?_eq_some_iff.mp e).1
  by_cases hj : j = i
  · subst hj
    unfold Own
    rw [List.getElem?_set_self hi]
    constructor
    · intro _
      exact ⟨xs, e⟩
    · intro _
      rcases hb with rfl | rfl
      · exact ⟨ys, .inl rfl⟩
      · exact ⟨ys, .inr rfl⟩
  · unfold Own
    rw [List.getElem?_set_ne (Ne.symm hj)]
theorem Rel.swap {i : Nat} {xs : List D} {b b' : Bd} (r : Rel T X st g σ H) (e : st.env[i]? = some b) (hb : b = .own xs ∨ b = .lent xs) (hb' : b' = .own xs ∨ b' = .lent xs) (hl : ∀ p ∈ g.lam, p.i ≠ i) : Rel T X { st with env := st.env.set i b' } g σ H := by
  have hi : i < st.env.length := (List.getElem?_eq_some_iff.mp e).1
  have ho : ∀ j, Own (st.env.set i b') j ↔ Own st.env j := own_swap (xs := xs) (ys := xs) (by rcases hb with rfl | rfl; exact .inl e; exact .inr e) hb'
  refine ⟨r.tb, r.K, r.mg, r.lm, r.wd, by simpa using r.len, fun j c ej => ?_, fun j k hj hk => r.inj j k ((ho j).mp hj) ((ho k).mp hk), fun p hp => ?_⟩
  · by_cases hj : j = i
    · subst hj
      have ej : (st.env.set j b')[j]? = some c := ej
      rw [List.getElem?_set_self hi] at ej
      cases ej
      have q := r.bd j b e
      rcases hb with rfl | rfl <;> rcases hb' with rfl | rfl <;> exact q
    · have ej : (st.env.set i b')[j]? = some c := ej
      rw [List.getElem?_set_ne (Ne.symm hj)] at ej
      exact r.bd j c ej
  · obtain ⟨a, c⟩ := r.lam p hp
    refine ⟨?_, c⟩
    show (st.env.set i b')[p.i]? = _
    rw [List.getElem?_set_ne (Ne.symm (hl p hp))]
    exact a
/-- what is known of the lists that are lent at the slots of is -/
def LF (env : List Bd) (g : GS) (σ : L2.St) (H : Hp) (is : List Nat) (L : List Lt) : Prop :=
  ∀ i ∈ is, ∀ xs, env[i]? = some (.own xs) ∨ env[i]? = some (.lent xs) → ∃ a vs, σ[i]? = some (some (.ref a)) ∧ H a = some (.lst vs) ∧ RpL g xs vs ∧ ⟨i, a, xs, vs⟩ ∈ L
theorem Rel.lend1 {i : Nat} {xs : List D} (r : Rel T X st g σ H) (e : st.env[i]? = some (.lent xs)) : ∃ a vs, σ[i]? = some (some (.ref a)) ∧ H a = some (.lst vs) ∧ RpL g xs vs ∧ Rel T X st (g.lamS (⟨i, a, xs, vs⟩ :: g.lam)) σ H := by
  obtain ⟨vs, h1, h2, h3, _⟩ := r.bd i _ e
  refine ⟨_, vs, h1, h2, h3, r.lamS fun p hp => ?_⟩
  rcases List.mem_cons.mp hp with rfl | hp
  · exact ⟨e, h1, h2⟩
  · exact r.lam p hp
theorem lend_same {is : List Nat} : ∀ {env : List Bd} {i : Nat}, (∀ xs, env[i]? ≠ some (.own xs)) → (lend is env)[i]? = env[i]? := by
  induction is with
  | nil => intro env i _; rfl
  | cons j r ih =>
    intro env i h
    unfold lend
    split
    · rename_i xs e
      have hne : j ≠ i := fun z => h xs (by rw [← z]; exact e)
      rw [ih (by rw [List.getElem?_set_ne hne]; exact h), List.getElem?_set_ne hne]
    · exact ih h
theorem Rel.lend : ∀ (is : List Nat) {st : Sx} {g : GS}, Rel T X st g σ H → ∃ L, Rel T X { st with env := Rf.lend is st.env } (g.lamS (L ++ g.lam)) σ H ∧ LF st.env g σ H is L ∧ ∀ i, Own (Rf.lend is st.env) i ↔ Own st.env i
  | [], st, g, r => ⟨[], r, fun i h => (nomatch h), fun i => Iff.rfl⟩
  | i :: is, st, g, r => by
    unfold Rf.lend
    cases hb : st.env[i]? with
    | none =>
      obtain ⟨L, h1, h2, h3⟩ := Rel.lend is r
      refine ⟨L, h1, fun j hj xs e => ?_, h3⟩
      rcases List.mem_cons.mp hj with rfl | hj
      · rw [hb] at e
        rcases e with e | e <;> cases e
      · exact h2 j hj xs e
    | some b =>
      cases b with
      | un =>
        obtain ⟨L, h1, h2, h3⟩ := Rel.lend is r
        refine ⟨L, h1, fun j hj xs e => ?_, h3⟩
        rcases List.mem_cons.mp hj with rfl | hj
        · rw [hb] at e
          rcases e with e | e <;> cases e
        · exact h2 j hj xs e
      | val d =>
        obtain ⟨L, h1, h2, h3⟩ := Rel.lend is r
        refine ⟨L, h1, fun j hj xs e => ?_, h3⟩
        rcases List.mem_cons.mp hj with rfl | hj
        · rw [hb] at e
          rcases e with e | e <;> cases e
        · exact h2 j hj xs e
      | lent ys =>
        obtain ⟨a, vs, q1, q2, q3, r1⟩ := r.lend1 hb
        obtain ⟨L, h1, h2, h3⟩ := Rel.lend is r1
        refine ⟨L ++ [⟨i, a, ys, vs⟩], by simpa [GS.lamS] using h1, fun j hj xs e => ?_, h3⟩
        rcases List.mem_cons.mp hj with rfl | hj
        · rw [hb] at e
          rcases e with e | e
          · cases e
          · cases e
            exact ⟨a, vs, q1, q2, q3, by simp⟩
        · obtain ⟨a', vs', p1, p2, p3, p4⟩ := h2 j hj xs e
          exact ⟨a', vs', p1, p2, p3.mono gr_lam', List.mem_append_left _ p4⟩
      | own ys =>
        have hi : i < st.env.length := (List.getElem?_eq_some_iff.mp hb).1
        have hl : ∀ p ∈ g.lam, p.i ≠ i := fun p hp z => by
          have q := (r.lam p hp).1
          rw [z, hb] at q
          cases q
        have r0 := r.swap (b' := .lent ys) hb (.inl rfl) (.inr rfl) hl
        obtain ⟨a, vs, q1, q2, q3, r1⟩ := r0.lend1 (i := i) (xs := ys) (List.getElem?_set_self hi)
        obtain ⟨L, h1, h2, h3⟩ := Rel.lend is r1
        refine ⟨L ++ [⟨i, a, ys, vs⟩], by simpa [GS.lamS] using h1, fun j hj xs e => ?_, fun j => (h3 j).trans (own_swap (.inl hb) (.inr rfl) j)⟩
        by_cases hji : j = i
        · subst hji
          rw [hb] at e
          rcases e with e | e
          · cases e
            exact ⟨a, vs, q1, q2, q3, by simp⟩
          · cases e
        · rcases List.mem_cons.mp hj with z | hj
          · exact (hji z).elim
          · obtain ⟨a', vs', p1, p2, p3, p4⟩ := h2 j hj xs (by
              show (st.env.set i _)[j]? = _ ∨ (st.env.set i _)[j]? = _
              rw [List.getElem?_set_ne (Ne.symm hji)]
              exact e)
            exact ⟨a', vs', p1, p2, p3.mono gr_lam', List.mem_append_left _ p4⟩
theorem Rel.back (old : List Bd) : ∀ (is : List Nat) {st : Sx}, Rel T X st g σ H → (∀ p ∈ g.lam, old[p.i]? = some (.lent p.xs)) → Rel T X { st with env := back old is st.env } g σ H ∧ ∀ i, Own (back old is st.env) i ↔ Own st.env i
  | [], st, r, _ => ⟨r, fun i => Iff.rfl⟩
  | i :: is, st, r, hl => by
    unfold Rf.back
    split
    · rename_i xs ys e1 e2
      have r1 := r.swap (b' := .own ys) e2 (.inr rfl) (.inl rfl) fun p hp z => by
        have q := hl p hp
        rw [z, e1] at q
        cases q
      obtain ⟨h1, h2⟩ := Rel.back old is r1 hl
      exact ⟨h1, fun j => (h2 j).trans (own_swap (.inr e2) (.inl rfl) j)⟩
    · exact Rel.back old is r hl
/-- back from a loop -/
theorem Rel.unlend {is : List Nat} {L : List Lt} {g' : GS} {σ' : L2.St} {H' : Hp} {st' : Sx} (r : Rel T X st g σ H) (s : Step (g.lamS (L ++ g.lam)) H g' H') (r' : Rel T X st' g' σ' H') :
    Step g H (g'.lamS g.lam) H' ∧ Rel T X { st' with env := Rf.back st.env is st'.env } (g'.lamS g.lam) σ' H' ∧ ∀ i, Own (Rf.back st.env is st'.env) i ↔ Own st'.env i := by
  have r1 : Rel T X st' (g'.lamS g.lam) σ' H' := r'.lamS fun p hp => r'.lam p (by rw [s.lam]; exact List.mem_append_right _ hp)
  obtain ⟨h1, h2⟩ := r1.back st.env is fun p hp => (r.lam p hp).1
  exact ⟨s.lamS, h1, h2⟩
/-- a loop runs while lists are lent -/
theorem RG.lending {m : Ev Fl} {is : List Nat} {D : Ends} {OK : Fl → Sx → GS → L2.St → Hp → Prop} (h : RG T X W (Rf.lending is m) st g σ H OK) (hk : ∀ f st' st2 g' g2 σ' H', (∀ i, Own st2.env i ↔ Own st'.env i) → g2 = g'.lamS g.lam → Rel T X st' g' σ' H' → OK f st2 g2 σ' H' → OK f st' g' σ' H') :
    ∃ L, LF st.env g σ H is L ∧ RG T X W m { st with env := lend is st.env } (g.lamS (L ++ g.lam)) σ H OK := by
  obtain ⟨rel, res, e, k⟩ := h
  obtain ⟨L, h1, h2, h3⟩ := rel.lend is
  refine ⟨L, h2, h1, ?_⟩
  unfold Rf.lending at e
  cases hm : m { st with env := Rf.lend is st.env } with
  | none => rw [hm] at e; cases e
  | some r1 =>
    obtain ⟨r, st'⟩ := r1
    rw [hm] at e
    cases e
    refine ⟨_, rfl, ?_⟩
    cases r with
    | ok f =>
      intro g' σ' H' s rel'
      obtain ⟨q1, q2, q3⟩ := rel.unlend (is := is) s rel'
      exact hk f st' _ g' _ σ' H' q3 rfl rel' (k _ σ' H' q1 q2)
    | error x =>
      intro g' σ' H' cls d s rel' rx
      obtain ⟨q1, q2, q3⟩ := rel.unlend (is := is) s rel'
      refine k _ σ' H' cls d q1 q2 ?_
      obtain ⟨C, dd, fs, e1, e2, e3, e4, e5⟩ := rx
      refine ⟨C, dd, fs, e1, e2, e3, e4, fun f e h => ?_⟩
      obtain ⟨v, p1, p2⟩ := e5 f e h
      exact ⟨v, p1, p2.mono gr_lam⟩
/-! ### names stored -/
theorem Rel.setVal {i : Nat} {b : Bd} {d : D} {v : V} (r : Rel T X st g σ H) (e : st.env[i]? = some b) (hb : ∀ xs, b ≠ .lent xs) (q : Rp g d v) : Rel T X { st with env := st.env.set i (.val d) } g (σ.set i (some v)) H := by
  have hi : i < st.env.length := (List.getElem?_eq_some_iff.mp e).1
  have hs : i < σ.length := by rw [← r.len]; exact hi
  have old : ∀ j, Own (st.env.set i (.val d)) j → Own st.env j := fun j ⟨ys, hj⟩ => by
    by_cases ej : j = i
    · subst ej
      rw [List.getElem?_set_self hi] at hj
      rcases hj with hj | hj <;> cases hj
    · rw [List.getElem?_set_ne (Ne.symm ej)] at hj
      exact ⟨ys, hj⟩
  refine ⟨r.tb, r.K, r.mg, r.lm, r.wd, by simpa using r.len, fun j c ej => ?_, fun j k hj hk => r.inj j k (old j hj) (old k hk), fun p hp => ?_⟩
  · have ej : (st.env.set i (.val d))[j]? = some c := ej
    by_cases hj : j = i
    · subst hj
      rw [List.getElem?_set_self hi] at ej
      cases ej
      exact ⟨v, by rw [List.getElem?_set_self hs], q⟩
    · rw [List.getElem?_set_ne (Ne.symm hj)] at ej
      have z := r.bd j c ej
      have es : (σ.set i (some v))[j]? = σ[j]? := List.getElem?_set_ne (Ne.symm hj)
      cases c with
      | un => trivial
      | val d' =>
        obtain ⟨w, e1, e2⟩ := z
        exact ⟨w, by rw [es]; exact e1, e2⟩
      | own xs =>
        obtain ⟨w, e1, e2⟩ := z
        exact ⟨w, by rw [es]; exact e1, e2⟩
      | lent xs =>
        obtain ⟨w, e1, e2⟩ := z
        exact ⟨w, by rw [es]; exact e1, e2⟩
  · obtain ⟨a, c1, c2⟩ := r.lam p hp
    have hne : i ≠ p.i := fun z => by
      rw [← z, e] at a
      cases a
      exact hb _ rfl
    refine ⟨?_, by rw [List.getElem?_set_ne hne]; exact c1, c2⟩
    show (st.env.set i _)[p.i]? = _
    rw [List.getElem?_set_ne hne]
    exact a
/-- a new list is owned by a slot -/
theorem Rel.setNew {i : Nat} {b : Bd} {xs : List D} {v : V} (r : Rel T X st g σ H) (e : st.env[i]? = some b) (hb : ∀ xs, b ≠ .lent xs) (q : RpR g H st.env (.fresh xs) v) :
    ∃ g', Step g H g' H ∧ Rel T X { st with env := st.env.set i (.own xs) } g' (σ.set i (some v)) H := by
  obtain ⟨a, vs, rfl, h1, h2, h3, h4, h5, h6⟩ := q
  have hi : i < st.env.length := (List.getElem?_eq_some_iff.mp e).1
  have hs : i < σ.length := by rw [← r.len]; exact hi
  have gr : Gr g { g with om := fun j => if j = i then a else g.om j } := ⟨rfl, rfl, fun _ _ h => h, fun _ _ h => h, rfl⟩
  refine ⟨{ g with om := fun j => if j = i then a else g.om j }, ⟨gr, rfl, rfl, rfl, fun _ _ h => .inl h, fun _ h => .inl h, fun _ _ h _ _ _ => h, fun _ h => h⟩, ⟨r.tb, r.K, r.mg, r.lm.mono gr, ⟨r.wd.sub, r.wd.nof, r.wd.nd, r.wd.len, fun n a kvs h1 h2 => ?_, r.wd.dom, r.wd.tabs⟩, by simpa using r.len, fun j c ej => ?_, fun j k hj hk => ?_, fun p hp => ?_⟩⟩
  · obtain ⟨q, e1, e2⟩ := r.wd.cel n a kvs h1 h2
    exact ⟨q, e1, e2.mono gr⟩
  · have ej : (st.env.set i (.own xs))[j]? = some c := ej
    by_cases hj : j = i
    · subst hj
      rw [List.getElem?_set_self hi] at ej
      cases ej
      have eo : (if j = j then a else g.om j) = a := if_pos rfl
      refine ⟨vs, ?_, ?_, h2.mono gr, ?_, ?_, ?_⟩
      · rw [List.getElem?_set_self hs]; show some (some (V.ref a)) = some (some (V.ref (if j = j then a else g.om j))); rw [eo]
      · show H (if j = j then a else g.om j) = _; rw [eo]; exact h1
      · show g.F (if j = j then a else g.om j) = _; rw [eo]; exact h3
      · show (if j = j then a else g.om j) ∉ g.mu; rw [eo]; exact h4
      · show g.B (if j = j then a else g.om j) = _; rw [eo]; exact h5
    · rw [List.getElem?_set_ne (Ne.symm hj)] at ej
      have z := r.bd j c ej
      have es : (σ.set i (some (.ref a)))[j]? = σ[j]? := List.getElem?_set_ne (Ne.symm hj)
      have eo : (if j = i then a else g.om j) = g.om j := if_neg hj
      cases c with
      | un => trivial
      | val d' =>
        obtain ⟨w, e1, e2⟩ := z
        exact ⟨w, by rw [es]; exact e1, e2.mono gr⟩
      | own ys =>
        obtain ⟨w, e1, e2, e3, e4⟩ := z
        exact ⟨w, by rw [es]; show _ = some (some (V.ref (if j = i then a else g.om j))); rw [eo]; exact e1, by show H (if j = i then a else g.om j) = _; rw [eo]; exact e2, e3.mono gr, by show g.F (if j = i then a else g.om j) = none ∧ (if j = i then a else g.om j) ∉ g.mu ∧ g.B (if j = i then a else g.om j) = none; rw [eo]; exact e4⟩
      | lent ys =>
        obtain ⟨w, e1, e2, e3, e4⟩ := z
        exact ⟨w, by rw [es]; show _ = some (some (V.ref (if j = i then a else g.om j))); rw [eo]; exact e1, by show H (if j = i then a else g.om j) = _; rw [eo]; exact e2, e3.mono gr, by show g.F (if j = i then a else g.om j) = none ∧ (if j = i then a else g.om j) ∉ g.mu ∧ g.B (if j = i then a else g.om j) = none; rw [eo]; exact e4⟩
  · have old : ∀ j, j ≠ i → Own (st.env.set i (.own xs)) j → Own st.env j := fun j hj ⟨ys, hh⟩ => by
      rw [List.getElem?_set_ne (Ne.symm hj)] at hh
      exact ⟨ys, hh⟩
    intro hjk
    have hjk : (if j = i then a else g.om j) = (if k = i then a else g.om k) := hjk
    by_cases h1 : j = i <;> by_cases h2 : k = i
    · rw [h1, h2]
    · rw [if_pos h1, if_neg h2] at hjk
      exact (h6 k (old k h2 hk) hjk.symm).elim
    · rw [if_neg h1, if_pos h2] at hjk
      exact (h6 j (old j h1 hj) hjk).elim
    · rw [if_neg h1, if_neg h2] at hjk
      exact r.inj j k (old j h1 hj) (old k h2 hk) hjk
  · obtain ⟨p1, p2, p3⟩ := r.lam p hp
    have hne : i ≠ p.i := fun z => by
      rw [← z, e] at p1
      cases p1
      exact hb _ rfl
    refine ⟨?_, by rw [List.getElem?_set_ne hne]; exact p2, p3⟩
    show (st.env.set i _)[p.i]? = _
    rw [List.getElem?_set_ne hne]
    exact p1
theorem putV_ok {i : Nat} {x : R} {v : V} {res : Except Exn Unit × Sx} (r : Rel T X st g σ H) (h : putV i x st = some res) (q : RpR g H st.env x v) : ∃ g' st', res = (.ok (), st') ∧ Step g H g' H ∧ Rel T X st' g' (σ.set i (some v)) H := by
  unfold putV at h
  cases hb : st.env[i]? with
  | none => rw [hb] at h; cases h
  | some b =>
    rw [hb] at h
    have hl : ∀ xs, b ≠ .lent xs := fun xs z => by
      rw [z] at h
      cases h
    have h : some (Except.ok (), { st with env := st.env.set i x.bd }) = some res := by
      cases b with
      | lent xs => exact (hl xs rfl).elim
      | _ => exact h
    cases h
    cases x with
    | val d => exact ⟨g, _, rfl, .refl g H, r.setVal hb hl q⟩
    | fresh xs =>
      obtain ⟨g', s, rel⟩ := r.setNew hb hl q
      exact ⟨g', _, rfl, s, rel⟩
/-- a run from here whose first step is a store -/
theorem RG.put {i : Nat} {x : R} {v : V} {f : Unit → Ev α} {OK : α → Sx → GS → L2.St → Hp → Prop} (h : RG T X W ((putV i x).bind f) st g σ H OK) (q : RpR g H st.env x v) : ∃ g' st', Step g H g' H ∧ RG T X W (f ()) st' g' (σ.set i (some v)) H OK := by
  obtain ⟨rel, res, e, k⟩ := h
  unfold Ev.bind at e
  cases hm : putV i x st with
  | none => rw [hm] at e; cases e
  | some r1 =>
    obtain ⟨g', st', e1, s, rel'⟩ := putV_ok rel hm q
    rw [hm, e1] at e
    exact ⟨g', st', s, rel', res, e, k.shift s⟩
end
/-! ### targets of loops -/
def gNames : List Nat → TGs
  | [] => gNil
  | i :: r => gCons (gName i) (gNames r)
def gRd (K : PySem.W.Frag) (t : List Nat) (one : Bool) : TG := match t, one with
  | [i], true => gName i
  | t, _ => gTup K t.length (gNames t)
/-- only slots of t are other -/
def Same (t : List Nat) (σ σ2 : L2.St) : Prop := σ2.length = σ.length ∧ ∀ j, j ∉ t → σ2[j]? = σ[j]?
theorem Same.refl (t : List Nat) (σ : L2.St) : Same t σ σ := ⟨rfl, fun _ _ => rfl⟩
section
variable {α : Type} {T : Tbs} {X : Cx} {W : WX} {st : Sx} {g : GS} {σ : L2.St} {H : Hp}
theorem putGo_ok : ∀ {t : List Nat} {ds : List D} {vs : List V} {st : Sx} {σ : L2.St} {res : Except Exn Unit × Sx}, t.length = ds.length → Rel T X st g σ H → putT.go t ds st = some res → RpL g ds vs → ∃ st' σ2, res = (.ok (), st') ∧ Rel T X st' g σ2 H ∧ Same t σ σ2 ∧ ∀ Q : L2.St → Hp → Prop, Q σ2 H → gNames t vs σ H Q
  | [], [], _, st, σ, _, _, r, h, .nil => by
    cases h
    exact ⟨st, σ, rfl, r, .refl _ _, fun Q q => ⟨rfl, q⟩⟩
  | i :: t, d :: ds, _, st, σ, res, hl, r, h, @RpL.cons _ _ _ v vs a b => by
    have h : ((putV i (.val d)).bind fun _ => putT.go t ds) st = some res := h
    unfold Ev.bind at h
    cases hm : putV i (.val d) st with
    | none => rw [hm] at h; cases h
    | some r1 =>
      rw [hm] at h
      have hb : ∃ b, st.env[i]? = some b ∧ ∀ xs, b ≠ .lent xs := by
        unfold putV at hm
        cases hb : st.env[i]? with
        | none => rw [hb] at hm; cases hm
        | some b => exact ⟨b, rfl, fun xs z => by rw [hb, z] at hm; cases hm⟩
      obtain ⟨b0, hb1, hb2⟩ := hb
      have e1 : r1 = (.ok (), { st with env := st.env.set i (.val d) }) := by
        unfold putV at hm
        rw [hb1] at hm
        cases b0 with
        | lent xs => exact (hb2 xs rfl).elim
        | _ => cases hm; rfl
      subst e1
      obtain ⟨st', σ2, q1, q2, q3, q4⟩ := putGo_ok (by simpa using hl) (r.setVal hb1 hb2 a) h b
      refine ⟨st', σ2, q1, q2, ⟨by rw [q3.1]; simp, fun j hj => ?_⟩, fun Q q => ⟨v, vs, rfl, q4 Q q⟩⟩
      rw [q3.2 j fun z => hj (List.mem_cons_of_mem _ z), List.getElem?_set_ne fun z => hj (by rw [z]; exact List.mem_cons_self)]
theorem putT_ok {t : List Nat} {one : Bool} {d : D} {x : V} {res : Except Exn Unit × Sx} (r : Rel T X st g σ H) (h : putT t one d st = some res) (q : Rp g d x) : ∃ st' σ2, res = (.ok (), st') ∧ Rel T X st' g σ2 H ∧ Same t σ σ2 ∧ ∀ Q : L2.St → Hp → Prop, Q σ2 H → gRd X.K t one x σ H Q := by
  have tup : one = false → ∃ st' σ2, res = (.ok (), st') ∧ Rel T X st' g σ2 H ∧ Same t σ σ2 ∧ ∀ Q : L2.St → Hp → Prop, Q σ2 H → gTup X.K t.length (gNames t) x σ H Q := by
    intro ho
    subst ho
    have h : (match d with
      | .tup xs => if xs.length = t.length then putT.go t xs else Ev.no
      | .lst xs => if xs.length = t.length then Ev.no else Ev.no
      | _ => Ev.no) st = some res := by
      cases t with
      | nil => exact h
      | cons i t => cases t <;> exact h
    cases d with
    | tup xs =>
      simp only at h
      split at h
      · rename_i hl
        cases q with
        | tup hq hr =>
          obtain ⟨st', σ2, q1, q2, q3, q4⟩ := putGo_ok hl.symm r h hr
          exact ⟨st', σ2, q1, q2, q3, fun Q z => ⟨_, _, rfl, by rw [← r.K]; exact sqT_mono r.wd.sub hq, by rw [← hr.length, hl], q4 Q z⟩⟩
      · cases h
    | lst xs => simp only [ite_self] at h; cases h
    | _ => cases h
  cases one with
  | false =>
    obtain ⟨st', σ2, q1, q2, q3, q4⟩ := tup rfl
    refine ⟨st', σ2, q1, q2, q3, fun Q z => ?_⟩
    cases t with
    | nil => exact q4 Q z
    | cons i t => cases t <;> exact q4 Q z
  | true =>
    cases t with
    | nil => cases h
    | cons i t =>
      cases t with
      | cons j t => cases h
      | nil =>
        obtain ⟨g', st', e1, s, rel⟩ := putV_ok (x := .val d) r h q
        have hb : ∃ b, st.env[i]? = some b ∧ ∀ xs, b ≠ .lent xs := by
          have hm : putV i (.val d) st = some res := h
          unfold putV at hm
          cases hb : st.env[i]? with
          | none => rw [hb] at hm; cases hm
          | some b => exact ⟨b, rfl, fun xs z => by rw [hb, z] at hm; cases hm⟩
        obtain ⟨b0, hb1, hb2⟩ := hb
        have e2 : res = (.ok (), { st with env := st.env.set i (.val d) }) := by
          have hm : putV i (.val d) st = some res := h
          unfold putV at hm
          rw [hb1] at hm
          cases b0 with
          | lent xs => exact (hb2 xs rfl).elim
          | _ => cases hm; rfl
        exact ⟨_, σ.set i (some x), e2, r.setVal hb1 hb2 q, ⟨by simp, fun j hj => List.getElem?_set_ne fun z => hj (by rw [z]; exact List.mem_cons_self)⟩, fun Q z => z⟩
end
end Rf
/-! Rf12: what a loop walks -/
namespace Rf
open PySem PySem.Spec L2
/-- J walks ds while the slots of is are lent -/
def WkD (T : Tbs) (st : Sx) (g : GS) (σ : L2.St) (H : Hp) (ds : List D) (is : List Nat) (J : It) : Prop :=
  ∀ L, LF st.env g σ H is L → ∃ (G : Hp → Prop) (Y : Nat → Hp → V → Hp → Prop), Walk J ds.length G Y ∧
    ∀ (X : Cx) st' g' σ' H', Gr g g' → (∀ p ∈ L, p ∈ g'.lam) → Rel T X st' g' σ' H' → G H' ∧
      ∀ i x H2, i < ds.length → Y i H' x H2 → ∃ d g2, ds[i]? = some d ∧ Step g' H' g2 H2 ∧ Rel T X st' g2 σ' H2 ∧ Rp g2 d x
def okI (T : Tbs) (σ : L2.St) (R : It → Hp → Prop) : List D × List Nat → Sx → GS → Hp → Prop := fun r st g H => ∀ J, WkD T st g σ H r.1 r.2 J → R J H
def tIv (T : Tbs) (X : Cx) (W : WX) (m : Ev (List D × List Nat)) : TI := fun σ H R => ∃ st g, RD T X W m st g σ H (okI T σ R)
def SI (P : Prg) (k : Nat) (T : Tbs) (X : Cx) (W : WX) (tg e : Expr) (a : I) : Prop := ∀ n, PI X tg e (tIv T X W (eI (ev P (cl P k) n) a))
theorem pi_weak {X : Cx} {tg e : Expr} {t t' : TI} (h : PI X tg e t) (w : ∀ σ H R, t' σ H R → t σ H R) : PI X tg e t' := ⟨fun pins s σ H R I q => h.run pins s σ H R I (w σ H R q)⟩
/-- a list, a tuple that stands while the slots are lent -/
def HL (T : Tbs) (g : GS) (L : List Lt) (xs : List D) (v : V) : Prop := ∃ a vs, v = .ref a ∧ RpL g xs vs ∧ ∀ (X : Cx) st' g' σ' H', Gr g g' → (∀ q ∈ L, q ∈ g'.lam) → Rel T X st' g' σ' H' → SqL g.K H' a vs
def HT (T : Tbs) (g : GS) (L : List Lt) (xs : List D) (v : V) : Prop := ∃ a vs, v = .ref a ∧ RpL g xs vs ∧ ∀ (X : Cx) st' g' σ' H', Gr g g' → (∀ q ∈ L, q ∈ g'.lam) → Rel T X st' g' σ' H' → SqT g.K H' a vs
theorem LF.sub {env : List Bd} {g : GS} {σ : L2.St} {H : Hp} {is is' : List Nat} {L : List Lt} (h : LF env g σ H is L) (s : ∀ i ∈ is', i ∈ is) : LF env g σ H is' L := fun i hi => h i (s i hi)
section
variable {T : Tbs} {X : Cx} {W : WX} {st : Sx} {g : GS} {σ : L2.St} {H : Hp}
theorem held_rp {d : D} {v : V} {L : List Lt} (q : Rp g d v) (xs : List D) : (d = .lst xs ∨ d = .scr xs → HL T g L xs v) ∧ (d = .tup xs → HT T g L xs v) := by
  refine ⟨fun h => ?_, fun h => ?_⟩
  · rcases h with rfl | rfl
    · cases q with
      | lst hq hr => exact ⟨_, _, rfl, hr, fun X st' g' σ' H' gr _ rel => SqL.of (rel.wd.sub _ _ (gr.F _ _ hq))⟩
    · cases q with
      | scr hq hr => exact ⟨_, _, rfl, hr, fun X st' g' σ' H' gr _ rel => sqL_mono (fun b o z => rel.wd.sub _ _ (gr.F _ _ z)) hq⟩
  · subst h
    cases q with
    | tup hq hr => exact ⟨_, _, rfl, hr, fun X st' g' σ' H' gr _ rel => sqT_mono (fun b o z => rel.wd.sub _ _ (gr.F _ _ z)) hq⟩
theorem resP_seq {p : Pl} {v : V} {OK : D → Sx → GS → Hp → Prop} (h : RD T X W (resP p) st g σ H OK) (r : RpP g σ p v) : ∃ d, RpS g H d v ∧ (∀ g' H', Step g H g' H' → Rel T X st g' σ H' → OK d st g' H') ∧
    ∀ xs L, LF st.env g σ H (plSlots [p]) L → (d = .lst xs ∨ d = .scr xs → HL T g L xs v) ∧ (d = .tup xs → HT T g L xs v) := by
  cases p with
  | tmp d => exact ⟨d, .inl r, h.ok, fun xs L _ => held_rp r xs⟩
  | var i =>
    obtain ⟨rel, res, e, k⟩ := h
    have r : σ[i]? = some (some v) := r
    unfold resP at e
    cases hb : st.env[i]? with
    | none => simp only [hb] at e; cases e
    | some b =>
      simp only [hb] at e
      have bd := rel.bd i b hb
      cases b with
      | un => cases e
      | val d =>
        cases e
        obtain ⟨w, e1, rw⟩ := bd
        rw [r] at e1
        cases e1
        exact ⟨d, .inl rw, k, fun xs L _ => held_rp rw xs⟩
      | own xs =>
        cases e
        obtain ⟨vs, e1, h1, h2, _⟩ := bd
        rw [r] at e1
        cases e1
        refine ⟨_, .inr ⟨xs, _, vs, rfl, rfl, h1, h2⟩, k, fun ys L lf => ⟨fun z => ?_, fun z => (nomatch z)⟩⟩
        rcases z with z | z
        · cases z
          obtain ⟨a, ws, q1, q2, q3, q4⟩ := lf i (by simp [plSlots]) _ (.inl hb)
          rw [r] at q1
          cases q1
          exact ⟨_, ws, rfl, q3, fun X' st' g' σ' H' _ hl rel' => SqL.of (rel'.lam _ (hl _ q4)).2.2⟩
        · cases z
      | lent xs =>
        cases e
        obtain ⟨vs, e1, h1, h2, _⟩ := bd
        rw [r] at e1
        cases e1
        refine ⟨_, .inr ⟨xs, _, vs, rfl, rfl, h1, h2⟩, k, fun ys L lf => ⟨fun z => ?_, fun z => (nomatch z)⟩⟩
        rcases z with z | z
        · cases z
          obtain ⟨a, ws, q1, q2, q3, q4⟩ := lf i (by simp [plSlots]) _ (.inr hb)
          rw [r] at q1
          cases q1
          exact ⟨_, ws, rfl, q3, fun X' st' g' σ' H' _ hl rel' => SqL.of (rel'.lam _ (hl _ q4)).2.2⟩
        · cases z
theorem YAt_get {g g' : GS} {xs : List D} {vs : List V} {i : Nat} {x : V} (q : RpL g xs vs) (gr : Gr g g') (e : vs[i]? = some x) : ∃ d, xs[i]? = some d ∧ Rp g' d x := by
  obtain ⟨d, h1, h2⟩ := q.get' e
  exact ⟨d, h1, h2.mono gr⟩
theorem wk_list {xs : List D} {v : V} {L : List Lt} {a : Addr} (h : HL T g L xs v) (e : v = .ref a) : ∃ (G : Hp → Prop) (Y : Nat → Hp → V → Hp → Prop), Walk (Itl g.K a) xs.length G Y ∧
    ∀ (X : Cx) st' g' σ' H', Gr g g' → (∀ p ∈ L, p ∈ g'.lam) → Rel T X st' g' σ' H' → G H' ∧
      ∀ i x H2, i < xs.length → Y i H' x H2 → ∃ d g2, xs[i]? = some d ∧ Step g' H' g2 H2 ∧ Rel T X st' g2 σ' H2 ∧ Rp g2 d x := by
  obtain ⟨b, vs, e2, q, st⟩ := h
  rw [e] at e2
  cases e2
  refine ⟨_, _, by rw [q.length]; exact walk_list, fun X st' g' σ' H' gr hl rel => ⟨st X st' g' σ' H' gr hl rel, fun i x H2 _ y => ?_⟩⟩
  obtain ⟨rfl, y⟩ := y
  obtain ⟨d, h1, h2⟩ := YAt_get q gr y
  exact ⟨d, g', h1, .refl _ _, rel, h2⟩
theorem wk_tup {xs : List D} {v : V} {L : List Lt} {a : Addr} (h : HT T g L xs v) (e : v = .ref a) : ∃ (G : Hp → Prop) (Y : Nat → Hp → V → Hp → Prop), Walk (Itt g.K a) xs.length G Y ∧
    ∀ (X : Cx) st' g' σ' H', Gr g g' → (∀ p ∈ L, p ∈ g'.lam) → Rel T X st' g' σ' H' → G H' ∧
      ∀ i x H2, i < xs.length → Y i H' x H2 → ∃ d g2, xs[i]? = some d ∧ Step g' H' g2 H2 ∧ Rel T X st' g2 σ' H2 ∧ Rp g2 d x := by
  obtain ⟨b, vs, e2, q, st⟩ := h
  rw [e] at e2
  cases e2
  refine ⟨_, _, by rw [q.length]; exact walk_tup, fun X st' g' σ' H' gr hl rel => ⟨st X st' g' σ' H' gr hl rel, fun i x H2 _ y => ?_⟩⟩
  obtain ⟨rfl, y⟩ := y
  obtain ⟨d, h1, h2⟩ := YAt_get q gr y
  exact ⟨d, g', h1, .refl _ _, rel, h2⟩
theorem wk_range {lo : Int} {n : Nat} : WkD T st g σ H (rangeD lo n) [] (Itr lo n) := fun L _ => by
  have hl : (rangeD lo n).length = n := by simp [rangeD]
  refine ⟨_, _, by rw [hl]; exact walk_range, fun X st' g' σ' H' gr _ rel => ⟨trivial, fun i x H2 hi y => ?_⟩⟩
  obtain ⟨rfl, rfl⟩ := y
  rw [hl] at hi
  exact ⟨.int (lo + i), g', by simp [rangeD, hi], .refl _ _, rel, .int _⟩
/-- a new pair -/
theorem pair_go {H' H2 : Hp} {g' : GS} {σ' : L2.St} {st' : Sx} {x : V} {d e : D} {u w : V} {q : Addr} (rel : Rel T X st' g' σ' H') (hn : H' q = none) (e2 : H2 = upd H' q (.tup [u, w])) (ex : x = .ref q) (ru : Rp g' d u) (rw : Rp g' e w) :
    ∃ g2, Step g' H' g2 H2 ∧ Rel T X st' g2 σ' H2 ∧ Rp g2 (.tup [d, e]) x := by
  subst e2 ex
  exact rel.newT hn (.cons ru (.cons rw .nil))
end
/-! ### zip of tuples -/
theorem walk_zipTT {K : PySem.W.Frag} {a b : Addr} {xs ys : List V} {n : Nat} (hn : n = min xs.length ys.length) : Walk (RZ.ItzT K a b) n (fun H => SqT K H a xs ∧ SqT K H b ys) (YPair (fun i => xs[i]?) (fun i => ys[i]?)) := by
  subst hn
  refine ⟨fun i _ hi q => ?_, fun _ q => ⟨xs, ys, q.1, q.2, by omega⟩, fun i H v H' _ q y => ?_⟩
  · have h1 : i < xs.length := by omega
    have h2 : i < ys.length := by omega
    exact ⟨xs, ys, xs[i], ys[i], q.1, q.2, by simp [h1], by simp [h2]⟩
  · obtain ⟨p, u, w, h1, h2, h3, h4, h5⟩ := y
    exact ⟨p, u, w, h1, h2, h3, h4 xs q.1, h5 ys q.2⟩
theorem zipD_get {xs ys : List D} {i : Nat} {d e : D} (h1 : xs[i]? = some d) (h2 : ys[i]? = some e) : (zipD xs ys)[i]? = some (.tup [d, e]) := by
  unfold zipD
  have hz : (xs.zip ys)[i]? = some (d, e) := List.getElem?_zip_eq_some.mpr ⟨h1, h2⟩
  rw [List.getElem?_map, hz]
  rfl
theorem zipD_len {xs ys : List D} : (zipD xs ys).length = min xs.length ys.length := by
  unfold zipD
  rw [List.length_map, List.length_zip]
section
variable {T : Tbs} {X : Cx} {W : WX} {st : Sx} {g : GS} {σ : L2.St} {H : Hp}
theorem wk_zip {xs ys : List D} {v w : V} {L : List Lt} {a b : Addr} (h1 : HL T g L xs v) (h2 : HL T g L ys w) (e1 : v = .ref a) (e2 : w = .ref b) : ∃ (G : Hp → Prop) (Y : Nat → Hp → V → Hp → Prop), Walk (Itz g.K a b) (zipD xs ys).length G Y ∧
    ∀ (X : Cx) st' g' σ' H', Gr g g' → (∀ p ∈ L, p ∈ g'.lam) → Rel T X st' g' σ' H' → G H' ∧
      ∀ i x H2, i < (zipD xs ys).length → Y i H' x H2 → ∃ d g2, (zipD xs ys)[i]? = some d ∧ Step g' H' g2 H2 ∧ Rel T X st' g2 σ' H2 ∧ Rp g2 d x := by
  obtain ⟨_, vs, q1, r1, k1⟩ := h1
  obtain ⟨_, ws, q2, r2, k2⟩ := h2
  rw [e1] at q1
  rw [e2] at q2
  cases q1
  cases q2
  refine ⟨_, _, walk_zip (by rw [zipD_len, r1.length, r2.length]), fun X st' g' σ' H' gr hl rel => ⟨⟨k1 X st' g' σ' H' gr hl rel, k2 X st' g' σ' H' gr hl rel⟩, fun i x H2 _ y => ?_⟩⟩
  obtain ⟨p, u, z, f1, f2, f3, f4, f5⟩ := y
  obtain ⟨d, d1, d2⟩ := YAt_get r1 gr f4
  obtain ⟨e, c1, c2⟩ := YAt_get r2 gr f5
  obtain ⟨g2, s, rel2, rp⟩ := pair_go rel f2 f3 f1 d2 c2
  exact ⟨_, g2, zipD_get d1 c1, s, rel2, rp⟩
theorem wk_zipT {xs ys : List D} {v w : V} {L : List Lt} {a b : Addr} (h1 : HT T g L xs v) (h2 : HT T g L ys w) (e1 : v = .ref a) (e2 : w = .ref b) : ∃ (G : Hp → Prop) (Y : Nat → Hp → V → Hp → Prop), Walk (RZ.ItzT g.K a b) (zipD xs ys).length G Y ∧
    ∀ (X : Cx) st' g' σ' H', Gr g g' → (∀ p ∈ L, p ∈ g'.lam) → Rel T X st' g' σ' H' → G H' ∧
      ∀ i x H2, i < (zipD xs ys).length → Y i H' x H2 → ∃ d g2, (zipD xs ys)[i]? = some d ∧ Step g' H' g2 H2 ∧ Rel T X st' g2 σ' H2 ∧ Rp g2 d x := by
  obtain ⟨_, vs, q1, r1, k1⟩ := h1
  obtain ⟨_, ws, q2, r2, k2⟩ := h2
  rw [e1] at q1
  rw [e2] at q2
  cases q1
  cases q2
  refine ⟨_, _, walk_zipTT (by rw [zipD_len, r1.length, r2.length]), fun X st' g' σ' H' gr hl rel => ⟨⟨k1 X st' g' σ' H' gr hl rel, k2 X st' g' σ' H' gr hl rel⟩, fun i x H2 _ y => ?_⟩⟩
  obtain ⟨p, u, z, f1, f2, f3, f4, f5⟩ := y
  obtain ⟨d, d1, d2⟩ := YAt_get r1 gr f4
  obtain ⟨e, c1, c2⟩ := YAt_get r2 gr f5
  obtain ⟨g2, s, rel2, rp⟩ := pair_go rel f2 f3 f1 d2 c2
  exact ⟨_, g2, zipD_get d1 c1, s, rel2, rp⟩
theorem enumD_get {xs : List D} {i : Nat} {d : D} (h : xs[i]? = some d) : (enumD xs)[i]? = some (.tup [.int (i : Nat), d]) := by
  have hi : i < xs.length := (List.getElem?_eq_some_iff.mp h).1
  unfold enumD
  rw [List.getElem?_map, List.getElem?_range hi]
  simp [List.getD, h]
theorem enumD_len {xs : List D} : (enumD xs).length = xs.length := by simp [enumD]
theorem wk_enum {xs : List D} {v : V} {L : List Lt} {a : Addr} (h1 : HL T g L xs v) (e1 : v = .ref a) : ∃ (G : Hp → Prop) (Y : Nat → Hp → V → Hp → Prop), Walk (Ite g.K a) (enumD xs).length G Y ∧
    ∀ (X : Cx) st' g' σ' H', Gr g g' → (∀ p ∈ L, p ∈ g'.lam) → Rel T X st' g' σ' H' → G H' ∧
      ∀ i x H2, i < (enumD xs).length → Y i H' x H2 → ∃ d g2, (enumD xs)[i]? = some d ∧ Step g' H' g2 H2 ∧ Rel T X st' g2 σ' H2 ∧ Rp g2 d x := by
  obtain ⟨_, vs, q1, r1, k1⟩ := h1
  rw [e1] at q1
  cases q1
  refine ⟨_, _, by rw [enumD_len, r1.length]; exact walk_enum, fun X st' g' σ' H' gr hl rel => ⟨k1 X st' g' σ' H' gr hl rel, fun i x H2 _ y => ?_⟩⟩
  obtain ⟨p, u, z, f1, f2, f3, f4, f5⟩ := y
  cases f4
  obtain ⟨e, c1, c2⟩ := YAt_get r1 gr f5
  obtain ⟨g2, s, rel2, rp⟩ := pair_go rel f2 f3 f1 (.int (i : Nat)) c2
  exact ⟨_, g2, enumD_get c1, s, rel2, rp⟩
theorem wk_rev {xs : List D} {v : V} {L : List Lt} {a : Addr} (h1 : HL T g L xs v) (e1 : v = .ref a) : ∃ (G : Hp → Prop) (Y : Nat → Hp → V → Hp → Prop), Walk (Itv g.K a xs.length) xs.reverse.length G Y ∧
    ∀ (X : Cx) st' g' σ' H', Gr g g' → (∀ p ∈ L, p ∈ g'.lam) → Rel T X st' g' σ' H' → G H' ∧
      ∀ i x H2, i < xs.reverse.length → Y i H' x H2 → ∃ d g2, xs.reverse[i]? = some d ∧ Step g' H' g2 H2 ∧ Rel T X st' g2 σ' H2 ∧ Rp g2 d x := by
  obtain ⟨_, vs, q1, r1, k1⟩ := h1
  rw [e1] at q1
  cases q1
  refine ⟨_, _, by rw [List.length_reverse, r1.length]; exact walk_rev, fun X st' g' σ' H' gr hl rel => ⟨k1 X st' g' σ' H' gr hl rel, fun i x H2 hi y => ?_⟩⟩
  obtain ⟨rfl, y⟩ := y
  rw [List.length_reverse] at hi
  obtain ⟨d, d1, d2⟩ := YAt_get r1 gr y
  exact ⟨d, g', by rw [List.getElem?_reverse hi, r1.length]; exact d1, .refl _ _, rel, d2⟩
end
/-! ### sources of loops -/
def iSq (K : PySem.W.Frag) (tl : TE) : TI := fun σ H R => tl σ H fun x H1 => ∃ a, x = .ref a ∧ (((∃ xs, SqL K H1 a xs) ∧ R (Itl K a) H1) ∨ ((∃ xs, SqT K H1 a xs) ∧ R (Itt K a) H1))
section
variable {P : Prg} {k : Nat} {T : Tbs} {X : Cx} {W : WX} {e a b c tg : Expr} {es elts : List Expr} {i ia ib ic : I} {is : List I} {pos p p2 tpos : Pos} {kk : Nat}
theorem pi_sq {tl : TE} (hl : PE X e tl) : PI X tg e (iSq X.K tl) := by
  refine ⟨fun pins s σ H R I0 h => thn (hl.run pins s σ H _ I0 h) fun v s1 ⟨x, H1, I1, r1, q1⟩ => ?_⟩
  obtain ⟨q, ex, q1⟩ := q1
  subst ex
  cases r1
  have fresh : ∀ b ∈ [s1.heap.objs.size], FpOk X pins H1 b := fun b hb => by
    have eb : b = s1.heap.objs.size := by simpa using hb
    rw [eb]
    exact I1.fpOk (Nat.le_refl _) (I1.hok.fresh (Nat.le_refl _))
  rcases q1 with ⟨⟨xs, hq⟩, rr⟩ | ⟨⟨xs, hq⟩, rr⟩
  · obtain ⟨its, rv, il, _⟩ := I1.list hq
    exact wpAny_pyIter_list il.isList ⟨_, [s1.heap.objs.size], _, _, H1, rfl, I1.kept (t' := s1.toks) fun b o z => Heap.get?_push_of_some _ z, turn_list q _, ⟨_, Heap.get?_push_size _ rfl, rfl, rfl⟩, fresh, rr⟩
  · obtain ⟨its, rv, il, _⟩ := I1.tuple hq
    exact wpAny_pyIter_tuple (show s1.heap.IsTuple q its.toArray from il) ⟨_, [s1.heap.objs.size], _, _, H1, rfl, I1.kept (t' := s1.toks) fun b o z => Heap.get?_push_of_some _ z, turn_tuple q _, ⟨_, Heap.get?_push_size _ rfl, rfl, rfl⟩, fresh, rr⟩
/-- a place's list or tuple -/
theorem si_sq (h : SP P k T X W e i) (hi : ∀ r : Rec, eI r i = (eP r i).bind fun p => (resP p).bind fun x => (Ev.of (itemsD x)).bind fun xs => Ev.ok (xs, plSlots [p]) := by intro _; rfl) : SI P k T X W tg e i := fun n => pi_weak (pi_sq (h n)) fun σ H R ⟨st, g, q⟩ => by
  rw [hi] at q
  refine ⟨st, g, q.bind.mono fun pl st1 g1 H1 s1 rel1 h1 v rv => ?_⟩
  obtain ⟨d, rd, k1, hl⟩ := resP_seq h1.bind rv
  obtain ⟨xs, ex, k2⟩ := (k1 _ _ (.refl _ _) rel1).bind.of0
  have k3 := k2.ok0
  cases d with
  | lst ys =>
    cases ex
    obtain ⟨q, vs, ev, h2, h3⟩ := rd.lst rel1.wd
    refine ⟨q, ev, .inl ⟨⟨vs, SqL.of h2⟩, k3 _ fun L lf => ?_⟩⟩
    rw [← rel1.K]
    exact wk_list ((hl xs L lf).1 (.inl rfl)) ev
  | scr ys =>
    cases ex
    obtain ⟨q, vs, ev, h2, h3⟩ := rd.scr rel1.wd
    refine ⟨q, ev, .inl ⟨⟨vs, by rw [← rel1.K]; exact h2⟩, k3 _ fun L lf => ?_⟩⟩
    rw [← rel1.K]
    exact wk_list ((hl xs L lf).1 (.inr rfl)) ev
  | tup ys =>
    cases ex
    obtain ⟨q, vs, ev, h2, h3⟩ := rd.tup rel1.wd
    refine ⟨q, ev, .inr ⟨⟨vs, by rw [← rel1.K]; exact h2⟩, k3 _ fun L lf => ?_⟩⟩
    rw [← rel1.K]
    exact wk_tup ((hl xs L lf).2 rfl) ev
  | _ => cases ex
theorem small62_le {j : Int} (h : small62 j = true) : -(2 ^ 62) ≤ j ∧ j < 2 ^ 62 := by
  unfold small62 at h
  have := Nat.le_of_ble_eq_true h
  omega
theorem si_rng1 (hm : X.mg "range" = none) (ha : SE P k T X W a ia) (hg : Gl X "range" := by rfl) (hs : starEach [a] X.env = [(false, eval a X.env)] := by rfl) (hs1 : starEach [a] X.env = (false, eval a X.env) :: starEach [] X.env := by rfl) : SI P k T X W tg (.Call (.Name "range" p) [a] [] pos) (.rng ia) := fun n =>
  pi_weak (pi_range1 hg hm (pa_cons (ha n) pa_nil hs1) hs) fun σ H R ⟨st, g, q⟩ => by
    have q : RD T X W (((ev P (cl P k) n).e ia).bind fun x => (Ev.of (intD x.d)).bind fun j => if small62 j then Ev.ok (rangeD 0 j.toNat, []) else Ev.no) st g σ H (okI T σ R) := q
    refine ⟨st, g, okE_d q fun x st1 g1 H1 v rel1 s1 rv h1 => ?_⟩
    obtain ⟨j, ej, h2⟩ := h1.bind.of0
    obtain ⟨hz, h3⟩ := h2.ifT
    cases hd : x.d with
    | int z =>
      rw [hd] at rv ej
      cases rv
      cases ej
      obtain ⟨b1, b2⟩ := small62_le hz
      exact ⟨_, rfl, b1, b2, h3.ok0 _ wk_range⟩
    | _ => rw [hd] at ej; cases ej
theorem si_rng2 (hm : X.mg "range" = none) (ha : SE P k T X W a ia) (hb : SE P k T X W b ib) (hg : Gl X "range" := by rfl) (hs : starEach [a, b] X.env = [(false, eval a X.env), (false, eval b X.env)] := by rfl) (hs2 : starEach [b] X.env = [(false, eval b X.env)] := by rfl)
    (he : starEach [a, b] X.env = (false, eval a X.env) :: starEach [b] X.env := by rfl) (he2 : starEach [b] X.env = (false, eval b X.env) :: starEach [] X.env := by rfl) : SI P k T X W tg (.Call (.Name "range" p) [a, b] [] pos) (.rng2 ia ib) := fun n =>
  pi_weak (pi_range2 hg hm (pa_cons (ha n) (pa_cons (hb n) pa_nil he2) he) hs hs2) fun σ H R ⟨st, g, q⟩ => by
    have q : RD T X W (((ev P (cl P k) n).e ia).bind fun x => ((ev P (cl P k) n).e ib).bind fun y => (Ev.of (intD x.d)).bind fun i => (Ev.of (intD y.d)).bind fun j => if small62 i && small62 j then Ev.ok (rangeD i (j - i).toNat, []) else Ev.no) st g σ H (okI T σ R) := q
    refine ⟨st, g, okE_d q fun x st1 g1 H1 v rel1 s1 rv h1 => ⟨st1, g1, okE_d h1 fun y st2 g2 H2 w rel2 s2 rw' h2 => ?_⟩⟩
    obtain ⟨i, ei, h3⟩ := h2.bind.of0
    obtain ⟨j, ej, h4⟩ := h3.bind.of0
    obtain ⟨hz, h5⟩ := h4.ifT
    rw [Bool.and_eq_true] at hz
    cases hd : x.d with
    | int z =>
      cases hd2 : y.d with
      | int z2 =>
        rw [hd] at rv ei
        rw [hd2] at rw' ej
        cases rv
        cases ei
        cases rw'
        cases ej
        obtain ⟨b1, b2⟩ := small62_le hz.1
        obtain ⟨b3, b4⟩ := small62_le hz.2
        exact ⟨_, _, rfl, ⟨b1, b2, b3, b4⟩, h5.ok0 _ wk_range⟩
      | _ => rw [hd2] at ej; cases ej
    | _ => rw [hd] at ei; cases ei
theorem si_enm (hm : X.mg "enumerate" = none) (ha : SP P k T X W a ia) (hg : Gl X "enumerate" := by rfl) (hs : starEach [a] X.env = [(false, eval a X.env)] := by rfl) (hs1 : starEach [a] X.env = (false, eval a X.env) :: starEach [] X.env := by rfl) : SI P k T X W (.Tuple elts kk tpos) (.Call (.Name "enumerate" p) [a] [] pos) (.enm ia) := fun n =>
  pi_weak (pi_enum hg hm (pa_cons (ha n) pa_nil hs1) hs) fun σ H R ⟨st, g, q⟩ => by
    have q : RD T X W ((eP (ev P (cl P k) n) ia).bind fun p => (resP p).bind fun x => match x with
      | .lst xs => Ev.ok (enumD xs, plSlots [p])
      | _ => Ev.no) st g σ H (okI T σ R) := q
    refine ⟨st, g, q.bind.mono fun pl st1 g1 H1 s1 rel1 h1 v rv => ?_⟩
    obtain ⟨d, rd, k1, hl⟩ := resP_seq h1.bind rv
    have k2 := k1 _ _ (.refl _ _) rel1
    cases d with
    | lst xs =>
      obtain ⟨q, vs, ev, h2, h3⟩ := rd.lst rel1.wd
      refine ⟨q, vs, by rw [ev], SqL.of h2, k2.ok0 _ fun L lf => ?_⟩
      rw [← rel1.K]
      exact wk_enum ((hl xs L lf).1 (.inl rfl)) ev
    | _ => exact k2.no.elim
theorem si_rvs (hm : X.mg "reversed" = none) (ha : SP P k T X W a ia) (hg : Gl X "reversed" := by rfl) (hs : starEach [a] X.env = (false, eval a X.env) :: starEach [] X.env := by rfl) : SI P k T X W tg (.Call (.Name "reversed" p) [a] [] pos) (.rvs ia) := fun n =>
  pi_weak (RT.pi_revA hg hm (ha n) hs) fun σ H R ⟨st, g, q⟩ => by
    have q : RD T X W ((eP (ev P (cl P k) n) ia).bind fun p => (resP p).bind fun x => match x with
      | .lst xs => Ev.ok (xs.reverse, plSlots [p])
      | _ => Ev.no) st g σ H (okI T σ R) := q
    refine ⟨st, g, q.bind.mono fun pl st1 g1 H1 s1 rel1 h1 v rv => ?_⟩
    obtain ⟨d, rd, k1, hl⟩ := resP_seq h1.bind rv
    have k2 := k1 _ _ (.refl _ _) rel1
    cases d with
    | lst xs =>
      obtain ⟨q, vs, ev, h2, h3⟩ := rd.lst rel1.wd
      refine ⟨q, vs, ev, .inl ⟨SqL.of h2, ?_⟩⟩
      rw [← h3.length]
      refine k2.ok0 _ fun L lf => ?_
      rw [← rel1.K]
      exact wk_rev ((hl xs L lf).1 (.inl rfl)) ev
    | _ => exact k2.no.elim
theorem si_zip (hm : X.mg "zip" = none) (ha : SP P k T X W a ia) (hb : SP P k T X W b ib) (hg : Gl X "zip" := by rfl) (he : starEach [a, b] X.env = (false, eval a X.env) :: starEach [b] X.env := by rfl) (he2 : starEach [b] X.env = (false, eval b X.env) :: starEach [] X.env := by rfl) (hpl : (backTo pos (starEach [b] X.env)).any (·.1) = false := by rfl) :
    SI P k T X W (.Tuple elts kk tpos) (.Call (.Name "zip" p) [a, b] [] pos) (.zip ia ib) := fun n =>
  pi_weak (RZ.pi_zipA hg hm (pa_cons (ha n) (pa_cons (hb n) pa_nil he2) he) he hpl) fun σ H R ⟨st, g, q⟩ => by
    have q : RD T X W ((eP (ev P (cl P k) n) ia).bind fun p => (eP (ev P (cl P k) n) ib).bind fun q => (resP p).bind fun x => (resP q).bind fun y => if lstTup x y then (Ev.of (itemsD x)).bind fun xs => (Ev.of (itemsD y)).bind fun ys => Ev.ok (zipD xs ys, plSlots [p, q]) else Ev.no) st g σ H (okI T σ R) := q
    refine ⟨st, g, q.bind.mono fun p1 st1 g1 H1 s1 rel1 h1 v rv => ⟨st1, g1, h1.bind.mono fun p2 st2 g2 H2 s2 rel2 h2 w rw' => ?_⟩⟩
    obtain ⟨d, rd, k1, hl⟩ := resP_seq h2.bind (rv.mono s2.gr)
    obtain ⟨e, re, k2, hl2⟩ := resP_seq (k1 _ _ (.refl _ _) rel2).bind rw'
    obtain ⟨hz, k3⟩ := (k2 _ _ (.refl _ _) rel2).ifT
    obtain ⟨xs, ex, k4⟩ := k3.bind.of0
    obtain ⟨ys, ey, k5⟩ := k4.bind.of0
    have k6 := k5.ok0
    have sl : ∀ i ∈ plSlots [p1], i ∈ plSlots [p1, p2] := fun i hi => by
      cases p1 with
      | var j => simp only [plSlots] at hi ⊢; exact List.mem_cons.mpr (.inl (List.mem_singleton.mp hi))
      | tmp d => simp [plSlots] at hi
    have sl2 : ∀ i ∈ plSlots [p2], i ∈ plSlots [p1, p2] := fun i hi => by
      cases p1 with
      | var j => simp only [plSlots]; exact List.mem_cons_of_mem _ hi
      | tmp d => exact hi
    cases d with
    | lst xs' =>
      cases e with
      | lst ys' =>
        cases ex
        cases ey
        obtain ⟨q, vs, ev, a2, a3⟩ := rd.lst rel2.wd
        obtain ⟨q', vs', ev', b2, b3⟩ := re.lst rel2.wd
        refine ⟨q, q', vs, vs', by rw [ev, ev'], .inl ⟨SqL.of a2, SqL.of b2, k6 _ fun L lf => ?_⟩⟩
        rw [← rel2.K]
        exact wk_zip ((hl xs L (lf.sub sl)).1 (.inl rfl)) ((hl2 ys L (lf.sub sl2)).1 (.inl rfl)) ev ev'
      | _ => cases hz
    | tup xs' =>
      cases e with
      | tup ys' =>
        cases ex
        cases ey
        obtain ⟨q, vs, ev, a2, a3⟩ := rd.tup rel2.wd
        obtain ⟨q', vs', ev', b2, b3⟩ := re.tup rel2.wd
        refine ⟨q, q', vs, vs', by rw [ev, ev'], .inr ⟨by rw [← rel2.K]; exact a2, by rw [← rel2.K]; exact b2, k6 _ fun L lf => ?_⟩⟩
        rw [← rel2.K]
        exact wk_zipT ((hl xs L (lf.sub sl)).2 rfl) ((hl2 ys L (lf.sub sl2)).2 rfl) ev ev'
      | _ => cases hz
    | _ => cases e <;> cases hz
end
end Rf
/-! Rf13: list comprehensions -/
namespace Rf
open PySem PySem.Spec L2
def W0 : WX := fun _ _ _ _ => False
/-- a run whose end is known -/
theorem RD.known {α : Type} {T : Tbs} {X : Cx} {W : WX} {m : Ev α} {st st' : Sx} {g : GS} {σ : L2.St} {H : Hp} {a : α} {OK : α → Sx → GS → Hp → Prop} (r : Rel T X st g σ H) (e : m st = some (.ok a, st')) (h : ∀ g' H', Step g H g' H' → Rel T X st' g' σ H' → OK a st' g' H') : RD T X W m st g σ H OK := ⟨r, _, e, h⟩
theorem bind_some {α β : Type} {m : Ev α} {f : α → Ev β} {st st' : Sx} {b : β} (h : (m.bind f) st = some (.ok b, st')) : ∃ a st1, m st = some (.ok a, st1) ∧ f a st1 = some (.ok b, st') := by
  unfold Ev.bind at h
  cases hm : m st with
  | none => rw [hm] at h; cases h
  | some r1 =>
    obtain ⟨r, st1⟩ := r1
    rw [hm] at h
    cases r with
    | error x => cases h
    | ok a => exact ⟨a, st1, rfl, h⟩
theorem ok_some {α : Type} {a b : α} {st st' : Sx} (h : Ev.ok a st = some (.ok b, st')) : a = b ∧ st = st' := by
  cases h
  exact ⟨rfl, rfl⟩
/-! ### slots of a block -/
theorem wipeE_len {env : List Bd} : ∀ own : List Nat, (wipeE own env).length = env.length
  | [] => rfl
  | i :: r => by unfold wipeE; rw [List.length_set, wipeE_len r]
theorem wipeE_in {env : List Bd} {i : Nat} {b : Bd} : ∀ {own : List Nat}, i ∈ own → (wipeE own env)[i]? = some b → b = .un
  | j :: r, h, e => by
    unfold wipeE at e
    by_cases hj : j = i
    · subst hj
      have hl : j < (wipeE r env).length := by
        have := (List.getElem?_eq_some_iff.mp e).1
        simpa using this
      rw [List.getElem?_set_self hl] at e
      cases e
      rfl
    · rw [List.getElem?_set_ne hj] at e
      exact wipeE_in ((List.mem_cons.mp h).resolve_left fun z => hj z.symm) e
theorem wipeE_out {env : List Bd} {i : Nat} : ∀ {own : List Nat}, i ∉ own → (wipeE own env)[i]? = env[i]?
  | [], _ => rfl
  | j :: r, h => by
    unfold wipeE
    rw [List.getElem?_set_ne fun z => h (by rw [z]; exact List.mem_cons_self)]
    exact wipeE_out fun z => h (List.mem_cons_of_mem _ z)
theorem unwipe_len {old env : List Bd} : ∀ own : List Nat, (unwipe own old env).length = env.length
  | [] => rfl
  | i :: r => by unfold unwipe; rw [List.length_set, unwipe_len r]
theorem unwipe_in {old env : List Bd} {i : Nat} {b : Bd} : ∀ {own : List Nat}, i ∈ own → (unwipe own old env)[i]? = some b → b = old.getD i .un
  | j :: r, h, e => by
    unfold unwipe at e
    by_cases hj : j = i
    · subst hj
      have hl : j < (unwipe r old env).length := by
        have := (List.getElem?_eq_some_iff.mp e).1
        simpa using this
      rw [List.getElem?_set_self hl] at e
      cases e
      rfl
    · rw [List.getElem?_set_ne hj] at e
      exact unwipe_in ((List.mem_cons.mp h).resolve_left fun z => hj z.symm) e
theorem unwipe_out {old env : List Bd} {i : Nat} : ∀ {own : List Nat}, i ∉ own → (unwipe own old env)[i]? = env[i]?
  | [], _ => rfl
  | j :: r, h => by
    unfold unwipe
    rw [List.getElem?_set_ne fun z => h (by rw [z]; exact List.mem_cons_self)]
    exact unwipe_out fun z => h (List.mem_cons_of_mem _ z)
theorem wipe_in {σ : L2.St} {i : Nat} : ∀ {own : List Nat}, i ∈ own → (wipe σ own)[i]? = if i < σ.length then some none else none
  | j :: r, h => by
    unfold wipe
    by_cases hj : j = i
    · subst hj
      by_cases hl : j < σ.length
      · rw [if_pos hl, List.getElem?_set_self (by rw [wipe_length]; exact hl)]
      · rw [if_neg hl, List.getElem?_eq_none (by rw [List.length_set, wipe_length]; omega)]
    · rw [List.getElem?_set_ne hj]
      exact wipe_in ((List.mem_cons.mp h).resolve_left fun z => hj z.symm)
theorem wipe_same {σ σ2 : L2.St} {t own : List Nat} (s : Same t (wipe σ own) σ2) (ht : ∀ j ∈ t, j ∈ own) : wipe σ2 own = wipe σ own := by
  have hl : σ2.length = σ.length := by rw [s.1, wipe_length]
  apply List.ext_getElem?
  intro j
  by_cases hj : j ∈ own
  · rw [wipe_in hj, wipe_in hj, hl]
  · rw [wipe_out hj, wipe_out hj, s.2 j fun z => hj (ht j z), wipe_out hj]
section
variable {T : Tbs} {X : Cx} {W : WX} {st : Sx} {g : GS} {σ : L2.St} {H : Hp}
theorem Rel.wipe {own : List Nat} (r : Rel T X st g σ H) (h : ∀ p ∈ g.lam, p.i ∉ own) : Rel T X { st with env := wipeE own st.env } g (L2.wipe σ own) H := by
  have old : ∀ j, Own (wipeE own st.env) j → Own st.env j := fun j ⟨ys, hj⟩ => by
    by_cases e : j ∈ own
    · rcases hj with hj | hj <;> cases wipeE_in e hj
    · rw [wipeE_out e] at hj
      exact ⟨ys, hj⟩
  refine ⟨r.tb, r.K, r.mg, r.lm, r.wd, by rw [wipe_length]; show (wipeE own st.env).length = _; rw [wipeE_len, r.len], fun j b ej => ?_, fun j k hj hk => r.inj j k (old j hj) (old k hk), fun p hp => ?_⟩
  · have ej : (wipeE own st.env)[j]? = some b := ej
    by_cases e : j ∈ own
    · rw [wipeE_in e ej]
      trivial
    · rw [wipeE_out e] at ej
      have z := r.bd j b ej
      cases b with
      | un => trivial
      | val d =>
        obtain ⟨v, e1, e2⟩ := z
        exact ⟨v, by rw [wipe_out e]; exact e1, e2⟩
      | own xs =>
        obtain ⟨v, e1, e2⟩ := z
        exact ⟨v, by rw [wipe_out e]; exact e1, e2⟩
      | lent xs =>
        obtain ⟨v, e1, e2⟩ := z
        exact ⟨v, by rw [wipe_out e]; exact e1, e2⟩
  · obtain ⟨a, b, c⟩ := r.lam p hp
    refine ⟨?_, by rw [wipe_out (h p hp)]; exact b, c⟩
    show (wipeE own st.env)[p.i]? = _
    rw [wipeE_out (h p hp)]
    exact a
/-- a list apart from all of ours is changed -/
theorem Rel.setFree {D : Addr} {vs ws : List V} (r : Rel T X st g σ H) (h : H D = some (.lst vs)) (hF : g.F D = none) (hm : D ∉ g.mu) (ho : ∀ i, Own st.env i → g.om i ≠ D) : Rel T X st g σ (upd H D (.lst ws)) := by
  have nz : ∀ b, H b ≠ none → upd H D (.lst ws) b ≠ none := fun b hb => by
    by_cases z : b = D
    · rw [z, upd_same]; intro y; cases y
    · rw [upd_ne z]; exact hb
  refine ⟨r.tb, r.K, r.mg, r.lm, ⟨fun b o e => ?_, r.wd.nof, r.wd.nd, r.wd.len, fun n a kvs q1 q2 => ?_, fun b hb => nz b (r.wd.dom b hb), tabs_upd r.wd.tabs h lst_tbl⟩, r.len, fun j b ej => (r.bd j b ej).step (.refl g) fun hj => ?_, r.inj, fun p hp => ?_⟩
  · rw [upd_ne fun z => by rw [z, hF] at e; cases e]
    exact r.wd.sub b o e
  · obtain ⟨k, e1, e2⟩ := r.wd.cel n a kvs q1 q2
    exact ⟨k, by rw [upd_ne fun z => hm (by rw [← z]; exact List.mem_of_getElem? q1)]; exact e1, e2⟩
  · have ow := own_one ej hj
    obtain ⟨us, q1, q2, q3, q4⟩ := r.owns ow
    exact ⟨rfl, by rw [upd_ne (ho j ow)], q2, q3, q4⟩
  · obtain ⟨a, b, c⟩ := r.lam p hp
    obtain ⟨_, f1, _⟩ := r.bd _ _ a
    have ep : g.om p.i = p.a := V.ref.inj (Option.some.inj (Option.some.inj (f1.symm.trans b)))
    exact ⟨a, b, by rw [upd_ne (by rw [← ep]; exact ho _ ⟨_, .inr a⟩)]; exact c⟩
/-- one more address is guarded -/
def GS.bS (g : GS) (B : Hp) : GS := { g with B := B }
theorem gr_b {B : Hp} : Gr g (g.bS B) := ⟨rfl, rfl, fun _ _ h => h, fun _ _ h => h, rfl⟩
theorem gr_b' {B : Hp} : Gr (g.bS B) g := ⟨rfl, rfl, fun _ _ h => h, fun _ _ h => h, rfl⟩
theorem Rel.bS {B : Hp} (r : Rel T X st g σ H) (hd : ∀ b, B b ≠ none → H b ≠ none) (ho : ∀ i, Own st.env i → B (g.om i) = none) : Rel T X st (g.bS B) σ H :=
  ⟨r.tb, r.K, r.mg, r.lm.mono gr_b, ⟨r.wd.sub, r.wd.nof, r.wd.nd, r.wd.len, fun n a kvs h1 h2 => by
    obtain ⟨q, e1, e2⟩ := r.wd.cel n a kvs h1 h2
    exact ⟨q, e1, e2.mono gr_b⟩, hd, r.wd.tabs⟩, r.len, fun i b e => (r.bd i b e).step gr_b fun hh => by
    have ow := own_one e hh
    obtain ⟨vs, h1, h2, h3, h4⟩ := r.owns ow
    exact ⟨rfl, rfl, h2, h3, ho i ow⟩, r.inj, r.lam⟩
/-- the block's slots as they were -/
theorem Rel.unwipe {own : List Nat} {old : List Bd} {g1 : GS} {H1 : Hp} {st1 : Sx} (r1 : Rel T X st1 g1 σ H1) (gr : Gr g1 g) (r : Rel T X st g (L2.wipe σ own) H) (ho : ∀ i ∈ own, ∃ b, st1.env[i]? = some b ∧ (b = .un ∨ ∃ d, b = .val d)) (hl : ∀ p ∈ g.lam, p.i ∉ own) : Rel T X { st with env := Rf.unwipe own st1.env st.env } g σ H := by
  have old : ∀ j, Own (Rf.unwipe own st1.env st.env) j → Own st.env j := fun j ⟨ys, hj⟩ => by
    by_cases e : j ∈ own
    · obtain ⟨b, hb, hb2⟩ := ho j e
      have hd : st1.env.getD j .un = b := by simp [List.getD, hb]
      rcases hj with hj | hj
      · have z := unwipe_in e hj
        rw [hd] at z
        rcases hb2 with q | ⟨d, q⟩ <;> (rw [q] at z; cases z)
      · have z := unwipe_in e hj
        rw [hd] at z
        rcases hb2 with q | ⟨d, q⟩ <;> (rw [q] at z; cases z)
    · rw [unwipe_out e] at hj
      exact ⟨ys, hj⟩
  refine ⟨r.tb, r.K, r.mg, r.lm, r.wd, by show (Rf.unwipe own st1.env st.env).length = _; rw [unwipe_len, r.len, wipe_length], fun j b ej => ?_, fun j k hj hk => r.inj j k (old j hj) (old k hk), fun p hp => ?_⟩
  · have ej : (Rf.unwipe own st1.env st.env)[j]? = some b := ej
    by_cases e : j ∈ own
    · obtain ⟨c, hb, hb2⟩ := ho j e
      have hd : st1.env.getD j .un = c := by simp [List.getD, hb]
      have z := unwipe_in e ej
      rw [hd] at z
      subst z
      have q := r1.bd j b hb
      rcases hb2 with rfl | ⟨d, rfl⟩
      · trivial
      · obtain ⟨v, e1, e2⟩ := q
        exact ⟨v, e1, e2.mono gr⟩
    · rw [unwipe_out e] at ej
      have z := r.bd j b ej
      cases b with
      | un => trivial
      | val d =>
        obtain ⟨v, e1, e2⟩ := z
        exact ⟨v, by rw [← wipe_out e]; exact e1, e2⟩
      | own xs =>
        obtain ⟨v, e1, e2⟩ := z
        exact ⟨v, by rw [← wipe_out e]; exact e1, e2⟩
      | lent xs =>
        obtain ⟨v, e1, e2⟩ := z
        exact ⟨v, by rw [← wipe_out e]; exact e1, e2⟩
  · obtain ⟨a, b, c⟩ := r.lam p hp
    refine ⟨?_, by rw [← wipe_out (hl p hp)]; exact b, c⟩
    show (Rf.unwipe own st1.env st.env)[p.i]? = _
    rw [unwipe_out (hl p hp)]
    exact a
/-- the ghost of the frame around -/
def GS.out (g g1 : GS) : GS := { g with B := g1.B, lam := g1.lam }
theorem gr_out {g1 : GS} : Gr g (g.out g1) := ⟨rfl, rfl, fun _ _ h => h, fun _ _ h => h, rfl⟩
theorem gr_out' {g1 : GS} : Gr (g.out g1) g := ⟨rfl, rfl, fun _ _ h => h, fun _ _ h => h, rfl⟩
theorem Step.outD {g1 g' : GS} {D : Addr} {H' : Hp} (s : Step g H g' H') (hB : g.B = upd g1.B D (.lst [])) (hD : g1.B D = none) : Step (g.out g1) H (g'.out g1) H' := by
  have nn : ∀ b, g.B b = none → g1.B b = none := fun b h => by
    rw [hB] at h
    by_cases z : b = D
    · rw [z]; exact hD
    · rw [upd_ne z] at h; exact h
  refine ⟨gr_out'.trans (s.gr.trans gr_out), rfl, rfl, s.tabs, fun b o h => (s.nF b o h).imp id (nn b), fun b h => (s.nmu b h).imp id (nn b), fun b o h hb => s.kB b o h ?_, s.kM⟩
  rw [hB]
  have z : b ≠ D := fun z => hb (by rw [z]; exact hD)
  rw [upd_ne z]
  exact hb
theorem Step.setD {D : Addr} {vs ws : List V} (h : H D = some (.lst vs)) (hD : g.B D = none) : Step g H g (upd H D (.lst ws)) := by
  refine ⟨.refl g, rfl, rfl, rfl, fun _ _ h => .inl h, fun _ h => .inl h, fun b o e hb _ _ => ?_, fun b hb => ?_⟩
  · rw [upd_ne fun z => hb (by rw [z]; exact hD)]
    exact e
  · by_cases z : b = D
    · rw [z, upd_same]; intro y; cases y
    · rw [upd_ne z]; exact hb
end
/-! ### the loop of a comprehension -/
section
variable {P : Prg} {k : Nat} {T : Tbs} {X : Cx} {W : WX} {r : Rec} {elt : I} {t : List Nat} {one : Bool} {ifs : List I} {own : List Nat}
/-- at the i-th turn -/
structure LcAt (T : Tbs) (X : Cx) (r : Rec) (elt : I) (t : List Nat) (one : Bool) (ifs : List I) (own : List Nat) (g1 : GS) (H1 : Hp) (σ : L2.St) (L : List Lt) (D : Addr) (ds tot : List Rf.D) (stF : Sx) (i : Nat) (Hc : Hp) : Prop where
  ex : ∃ (st : Sx) (g : GS) (aD : List Rf.D) (acc : List V) (xs : List Rf.D), Rel T X st g (L2.wipe σ own) Hc ∧ lcL r elt t one ifs own (ds.drop i) st = some (.ok xs, stF) ∧ aD ++ xs = tot ∧ aD.length ≤ i ∧
    Step g1 H1 (g.out g1) Hc ∧ g.lam = L ++ g1.lam ∧ g.B = upd g1.B D (.lst []) ∧ Hc D = some (.lst acc) ∧ RpL g aD acc ∧ g.F D = none ∧ D ∉ g.mu
theorem lc_rd {st : Sx} {g : GS} {σ : L2.St} {H : Hp} {Q : VK} {it : I} {K : PySem.W.Frag} (hK : K = X.K) (ht : ∀ j ∈ t, j ∈ own) (h : RD T X W (eLc r elt t one it ifs own) st g σ H (okE Q)) :
    tLc (tIv T X W (eI r it)) (gRd K t one) (tTv T X W0 (ifsT r ifs)) (tEv T X W0 (r.e elt)) own σ H Q := by
  subst hK
  refine ⟨st, g, h.bind.mono fun ⟨ds, is⟩ st1 g1 H1 s1 rel1 h1 => ?_⟩
  intro J wk D hD
  obtain ⟨hsz, h2⟩ := h1.ifT
  obtain ⟨_, res, e, kk⟩ := h2
  simp only at e
  split at e
  · rename_i hc
    obtain ⟨hc1, hc2⟩ := hc
    cases hm : lcL r elt t one ifs own ds { st1 with env := wipeE own (lend is st1.env) } with
    | none => rw [hm] at e; cases e
    | some r1 =>
      obtain ⟨rr, stF⟩ := r1
      rw [hm] at e
      cases rr with
      | error x => cases e
      | ok tot =>
        cases e
        have hO : ∀ i ∈ own, ∃ b, st1.env[i]? = some b ∧ (b = .un ∨ ∃ d, b = .val d) := fun i hi => by
          have z := List.all_eq_true.mp hc1 i hi
          cases hb : st1.env[i]? with
          | none => rw [hb] at z; cases z
          | some b =>
            rw [hb] at z
            cases b with
            | un => exact ⟨_, rfl, .inl rfl⟩
            | val d => exact ⟨_, rfl, .inr ⟨d, rfl⟩⟩
            | own xs => cases z
            | lent xs => cases z
        obtain ⟨L, rl, lf, lo⟩ := rel1.lend is
        obtain ⟨G, Y, w, wk2⟩ := wk L lf
        have hlam : ∀ p ∈ L ++ g1.lam, p.i ∉ own := fun p hp hi => by
          obtain ⟨b, hb, hb2⟩ := hO p.i hi
          have q := (rl.lam p hp).1
          have q : (lend is st1.env)[p.i]? = some (.lent p.xs) := q
          rw [lend_same fun xs z => by
            rw [hb] at z
            cases z
            rcases hb2 with z | ⟨d, z⟩ <;> cases z] at q
          rw [hb] at q
          cases q
          rcases hb2 with z | ⟨d, z⟩ <;> cases z
        have nB := rel1.nB hD
        have nF := rel1.nF hD
        have nM := rel1.nM hD
        -- the start
        have start : LcAt T X r elt t one ifs own g1 H1 σ L D ds tot stF 0 (upd H1 D (.lst [])) := by
          obtain ⟨q1, q2⟩ := rl.new0 (o := .lst []) hD
          have q3 : Rel T X { st1 with env := lend is st1.env } ((g1.lamS (L ++ g1.lam)).bS (upd g1.B D (.lst []))) σ (upd H1 D (.lst [])) := q2.bS (fun b hb => by
            by_cases z : b = D
            · rw [z, upd_same]; intro y; cases y
            · rw [upd_ne z] at hb ⊢
              exact rel1.wd.dom b hb) fun i hi => by
            have hne : g1.om i ≠ D := rel1.nO hD i ((lo i).mp hi)
            show upd g1.B D (.lst []) (g1.om i) = none
            rw [upd_ne hne]
            obtain ⟨_, _, _, _, z⟩ := rel1.owns ((lo i).mp hi)
            exact z
          have q4 := q3.wipe (own := own) hlam
          refine ⟨_, _, [], [], tot, q4, hm, rfl, Nat.le_refl _, ?_, rfl, rfl, upd_same, .nil, nF, nM⟩
          exact ⟨⟨rfl, rfl, fun _ _ h => h, fun _ _ h => h, rfl⟩, rfl, rfl, rfl, fun _ _ h => .inl h, fun _ h => .inl h, fun b o h hb _ _ => by rw [upd_ne fun z => hb (by rw [z]; exact nB)]; exact h, fun b hb => by
            by_cases z : b = D
            · rw [z, upd_same]; intro y; cases y
            · rw [upd_ne z]; exact hb⟩
        refine lc_it w (fun i Hc => LcAt T X r elt t one ifs own g1 H1 σ L D ds tot stF i Hc) start (fun i Hc hi a => ?_) (fun i x Hc H' hi a y => ?_) (fun Hc a => ?_)
        · obtain ⟨st2, g2, aD, acc, xs, rel2, _, _, _, s2, el, _⟩ := a.ex
          exact (wk2 X st2 g2 _ Hc (s2.gr.trans gr_out') (fun p hp => by rw [el]; exact List.mem_append_left _ hp) rel2).1
        · obtain ⟨st2, g2, aD, acc, xs, rel2, el2, etot, hle, s2, elam, eB, eD, ra, fD, mD⟩ := a.ex
          obtain ⟨d, g3, ed, s3, rel3, rd⟩ := (wk2 X st2 g2 _ Hc (s2.gr.trans gr_out') (fun p hp => by rw [elam]; exact List.mem_append_left _ hp) rel2).2 i x H' hi y
          have hdrop : ds.drop i = d :: ds.drop (i + 1) := by
            obtain ⟨hi', e'⟩ := List.getElem?_eq_some_iff.mp ed
            rw [← e']
            exact List.drop_eq_getElem_cons hi'
          rw [hdrop] at el2
          obtain ⟨_, st3, p1, el3⟩ := bind_some (show ((putT t one d).bind fun _ => (ifsT r ifs).bind fun b =>
            (if b = true then (r.e elt).bind fun x => Ev.ok [x.d] else Ev.ok []).bind fun x =>
              fun s => ((lcL r elt t one ifs own (ds.drop (i + 1))).bind fun xs => Ev.ok (x ++ xs)) { s with env := wipeE own s.env }) st2 = some (.ok xs, stF) from el2)
          obtain ⟨st3', σ3, ee, rel4, sm, gr4⟩ := putT_ok (X := X) rel3 p1 rd
          cases ee
          have hw := wipe_same sm ht
          refine gr4 _ ⟨hw, ?_⟩
          obtain ⟨b, st4, p2, el4⟩ := bind_some el3
          obtain ⟨ys, st5, p3, el5⟩ := bind_some el4
          obtain ⟨zs, st6, p4, el6⟩ := bind_some el5
          obtain ⟨exs, estF⟩ := ok_some el6
          subst estF
          -- what holds behind
          have fin : ∀ {g5 : GS} {H5 : Hp} {Hn : Hp} {aD' : List Rf.D} {acc' : List V}, Step g2 Hc g5 H5 → Rel T X st5 g5 σ3 H5 → aD' ++ zs = tot → aD'.length ≤ i + 1 → (∃ vs, Hn = H5 ∧ acc' = acc ∧ aD' = aD ∨ Hn = upd H5 D (.lst acc') ∧ acc' = vs) → RpL g5 aD' acc' → LcAt T X r elt t one ifs own g1 H1 σ L D ds tot st6 (i + 1) Hn := by
            intro g5 H5 Hn aD' acc' s5 rel5 e5 l5 hn ra5
            have eD5 : H5 D = some (.lst acc) := s5.kB D _ eD (by rw [eB, upd_same]; intro z; cases z) mD lst_tbl
            have fD5 : g5.F D = none := by
              cases q : g5.F D with
              | none => rfl
              | some o =>
                rcases s5.nF D o q with z | z
                · rw [fD] at z; cases z
                · rw [eB, upd_same] at z; cases z
            have mD5 : D ∉ g5.mu := fun q => by
              rcases s5.nmu D q with z | z
              · exact mD z
              · rw [eB, upd_same] at z; cases z
            have el5' : g5.lam = L ++ g1.lam := s5.lam.trans elam
            have rel6 := rel5.wipe (own := own) (by rw [el5']; exact hlam)
            rw [hw] at rel6
            have so := s5.outD eB nB
            obtain ⟨vs, hn⟩ := hn
            rcases hn with ⟨rfl, rfl, rfl⟩ | ⟨rfl, rfl⟩
            · exact ⟨_, g5, aD', acc', zs, rel6, p4, e5, l5, s2.trans so, el5', s5.B.trans eB, eD5, ra5, fD5, mD5⟩
            · have ho6 : ∀ j, Own (wipeE own st5.env) j → g5.om j ≠ D := fun j hj z => by
                obtain ⟨_, _, _, _, q⟩ := rel6.owns hj
                rw [z, s5.B, eB, upd_same] at q
                cases q
              exact ⟨_, g5, aD', acc', zs, rel6.setFree eD5 fD5 mD5 ho6, p4, e5, l5, (s2.trans so).trans (Step.setD eD5 nB), el5', s5.B.trans eB, upd_same, ra5, fD5, mD5⟩
          refine ⟨_, _, RD.known rel4 p2 fun g4 H4 s4 rel5 => ?_⟩
          cases b with
          | false =>
            rw [if_neg Bool.false_ne_true] at p3 ⊢
            obtain ⟨e1, e2⟩ := ok_some p3
            subst e1 e2
            exact fin (s3.trans s4) rel5 (by rw [← etot, ← exs]; rfl) (Nat.le_succ_of_le hle) ⟨acc, .inl ⟨rfl, rfl, rfl⟩⟩ (ra.mono (s3.trans s4).gr)
          | true =>
            rw [if_pos rfl] at p3 ⊢
            obtain ⟨y, st7, p5, p6⟩ := bind_some p3
            obtain ⟨e1, e2⟩ := ok_some p6
            subst e1 e2
            refine ⟨_, _, RD.known rel5 p5 fun g6 H6 s6 rel6 v rv => ?_⟩
            obtain ⟨g7, s7, rel7, rp⟩ := RpR.val rel6 rv
            have s27 := ((s3.trans s4).trans s6).trans s7
            have eD7 : H6 D = some (.lst acc) := s27.kB D _ eD (by rw [eB, upd_same]; intro z; cases z) mD lst_tbl
            refine ⟨acc, eD7, ?_, fin s27 rel7 (aD' := aD ++ [y.d]) (acc' := acc ++ [v]) (by rw [← etot, ← exs]; simp) (by simpa using hle) ⟨_, .inr ⟨rfl, rfl⟩⟩ ((ra.mono s27.gr).app (.cons rp .nil))⟩
            have e8 := ra.length
            rw [← line_eq]
            have : acc.length ≤ i := by rw [← e8]; exact hle
            have hi2 : i < ds.length := hi
            omega
        · obtain ⟨st2, g2, aD, acc, xs, rel2, el2, etot, hle, s2, elam, eB, eD, ra, fD, mD⟩ := a.ex
          rw [List.drop_length] at el2
          obtain ⟨e1, e2⟩ := ok_some (show Ev.ok [] st2 = some (.ok xs, stF) from el2)
          subst e1 e2
          rw [List.append_nil] at etot
          subst etot
          -- back
          have rB : Rel T X st2 (g2.bS g1.B) (L2.wipe σ own) Hc := rel2.bS (fun b hb => s2.kM b (rel1.wd.dom b hb)) fun i hi => by
            obtain ⟨_, _, _, _, q⟩ := rel2.owns hi
            rw [eB] at q
            by_cases z : g2.om i = D
            · rw [z, upd_same] at q; cases q
            · rw [upd_ne z] at q; exact q
          have rL : Rel T X st2 (g2.out g1) (L2.wipe σ own) Hc := rB.lamS fun p hp => rB.lam p (by show p ∈ g2.lam; rw [elam]; exact List.mem_append_right _ hp)
          obtain ⟨rK, oK⟩ := rL.back st1.env is fun p hp => (rel1.lam p hp).1
          have rU := rel1.unwipe (own := own) (old := st1.env) s2.gr rK hO fun p hp => hlam p (List.mem_append_right _ hp)
          have hown : ∀ i, Own (Rf.unwipe own st1.env (Rf.back st1.env is st2.env)) i → Own st2.env i := fun i ⟨ys, hi⟩ => by
            by_cases z : i ∈ own
            · obtain ⟨b, hb, hb2⟩ := hO i z
              have hd : st1.env.getD i .un = b := by simp [List.getD, hb]
              rcases hi with hi | hi
              · have q := unwipe_in z hi
                rw [hd] at q
                rcases hb2 with y | ⟨d, y⟩ <;> (rw [y] at q; cases q)
              · have q := unwipe_in z hi
                rw [hd] at q
                rcases hb2 with y | ⟨d, y⟩ <;> (rw [y] at q; cases q)
            · rw [unwipe_out z] at hi
              exact (oK i).mp ⟨ys, hi⟩
          refine kk (g2.out g1) Hc s2 rU (.ref D) ⟨D, acc, rfl, eD, ra.mono gr_out, fD, mD, nB, fun i hi z => ?_⟩
          obtain ⟨_, _, _, _, q⟩ := rel2.owns (hown i hi)
          have z : g2.om i = D := z
          rw [z, eB, upd_same] at q
          cases q
  · cases e
end
/-! ### the rules -/
/-- a clause's tests -/
def SIf (P : Prg) (k : Nat) (T : Tbs) (X : Cx) (W : WX) (ifs : List Expr) (is : List I) : Prop := ∀ n, PTs X ifs (tTv T X W (ifsT (ev P (cl P k) n) is))
section
variable {P : Prg} {k : Nat} {T : Tbs} {X : Cx} {W : WX} {elt iter tg c : Expr} {ifs : List Expr} {ie ic ii : I} {iifs : List I} {pos : Pos} {t : List Nat} {one : Bool}
theorem sif_nil : SIf P k T X W [] [] := fun n => ⟨fun pins s σ H Q I0 ⟨st, g, q⟩ => pts_nil.run pins s σ H Q I0 q.ok0⟩
theorem sif_one (h : ST P k T X W c ic) : SIf P k T X W [c] [ic] := fun n => ⟨fun pins s σ H Q I0 ⟨st, g, q⟩ => (pts_one (h n)).run pins s σ H Q I0 ⟨st, g, by
  have q : RD T X W (((ev P (cl P k) n).t ic).bind fun b => if b = true then Ev.ok true else Ev.ok false) st g σ H (fun b _ _ H => Q b H) := q
  exact q.bind.mono fun b st' g' H' s rel h' => by
    cases b with
    | true => exact RD.ok0 (T := T) (X := X) (W := W) (a := true) h'
    | false => exact RD.ok0 (T := T) (X := X) (W := W) (a := false) h'⟩⟩
/-- what is shown of a comprehension's parts -/
structure LcP (P : Prg) (k : Nat) (T : Tbs) (X : Cx) (W : WX) (elt tg iter : Expr) (ifs : List Expr) (scope : Scope) (own : List (Str × Nat)) (t : List Nat) (one : Bool) (ie ii : I) (iifs : List I) : Prop where
  hi : SI P k T X W tg iter ii
  ok : BlkOk X.N X.env.scope scope own
  hg : ∀ (s : Shared) (H : Hp) (C : Addr) (cl : List (Str × Addr)) (fp : List Addr), XO P k T (X.blk s H scope (compEnvC scope cl C X.env) fp) W0 → PG (X.blk s H scope (compEnvC scope cl C X.env) fp) tg (gRd X.K t one)
  ht : ∀ (s : Shared) (H : Hp) (C : Addr) (cl : List (Str × Addr)) (fp : List Addr), XO P k T (X.blk s H scope (compEnvC scope cl C X.env) fp) W0 → SIf P k T (X.blk s H scope (compEnvC scope cl C X.env) fp) W0 ifs iifs
  he : ∀ (s : Shared) (H : Hp) (C : Addr) (cl : List (Str × Addr)) (fp : List Addr), XO P k T (X.blk s H scope (compEnvC scope cl C X.env) fp) W0 → SE P k T (X.blk s H scope (compEnvC scope cl C X.env) fp) W0 elt ie
  hts : ∀ j ∈ t, j ∈ own.map (·.2)
  hs : ∀ x, foldedSetIterable iter X.env x = pure x
theorem pts_weak {X : Cx} {ifs : List Expr} {t t' : TT} (h : PTs X ifs t) (w : ∀ σ H Q, t' σ H Q → t σ H Q) : PTs X ifs t' := ⟨fun pins s σ H Q I0 q => h.run pins s σ H Q I0 (w σ H Q q)⟩
theorem se_lc {scope : Scope} {own : List (Str × Nat)} (o : XO P k T X W) (h : LcP P k T X W elt tg iter ifs scope own t one ie ii iifs) : SE P k T X W (.ListComp elt [⟨tg, iter, ifs, 0⟩] scope pos) (.lc ie t one ii iifs (own.map (·.2))) :=
  se_mk (fun n => pe_lc o.calm o.nd (h.hi n) h.ok (fun s H C cl fp => h.hg s H C cl fp (o.blk s H _ _ fp)) (fun s H C cl fp => pts_weak (h.ht s H C cl fp (o.blk s H _ _ fp) n) fun σ H Q ⟨st, g, q⟩ => ⟨st, g, q.cx rfl rfl rfl⟩) (fun s H C cl fp => pe_weak (h.he s H C cl fp (o.blk s H _ _ fp) n) fun σ H Q ⟨st, g, q⟩ => ⟨st, g, q.cx rfl rfl rfl⟩) h.hs) fun n σ H Q st g q => lc_rd rfl h.hts q
end
end Rf
/-! Rf14: statements -/
namespace Rf
open PySem PySem.Spec L2
def okS (D : Ends) : Fl → Sx → GS → L2.St → Hp → Prop := fun f st g σ H => match f with
  | .nx => D.nx σ H
  | .bk => D.bk σ H
  | .ct => D.ct σ H
  | .rt r => ∀ v, RpR g H st.env r v → D.rt v H
def tSv (T : Tbs) (X : Cx) (W : WX) (m : Ev Fl) : TS := fun D σ H => ∃ st g, RG T X W m st g σ H (okS D)
def SS (P : Prg) (k : Nat) (T : Tbs) (X : Cx) (W : WX) (s : Stmt) (j : J) : Prop := ∀ n, PS X s (tSv T X W ((ev P (cl P k) n).s j))
def SSs (P : Prg) (k : Nat) (T : Tbs) (X : Cx) (W : WX) (s : List Stmt) (js : List J) : Prop := ∀ n, PSs X s (tSv T X W (sL (ev P (cl P k) n) js))
/-- where a statement stands -/
structure XS (P : Prg) (k : Nat) (T : Tbs) (X : Cx) (W : WX) : Prop where
  o : XO P k T X W
  po : PassesOwn (model X.prog X.w) X.A X.env X.xe
section
variable {P : Prg} {k : Nat} {T : Tbs} {X : Cx} {W : WX} {e a b c tg : Expr} {es : List Expr} {i ia ib ic ii : I} {is : List I} {pos p p2 p3 pt : Pos} {x y z : Str} {s : Stmt} {ss ss2 : List Stmt} {j : J} {js js2 : List J}
theorem ss_mk {t : Nat → TS} (h : ∀ n, PS X s (t n)) (w : ∀ n σ H D st g, RG T X W (S1 P (ev P (cl P k) n) j) st g σ H (okS D) → t n D σ H) : SS P k T X W s j := fun n =>
  match n with
  | 0 => ps_void fun D σ H ⟨st, g, q⟩ => q.no
  | n + 1 => ps_weak (h n) fun D σ H ⟨st, g, q⟩ => w n σ H D st g q
theorem sss_nil : SSs P k T X W [] [] := fun n => pss_weak pss_nil fun D σ H ⟨st, g, q⟩ => RG.ok0 (T := T) (X := X) (W := W) (a := Fl.nx) q
theorem sss_cons (h : SS P k T X W s j) (hr : SSs P k T X W ss js) : SSs P k T X W (s :: ss) (j :: js) := fun n => pss_weak (pss_cons (h n) (hr n)) fun D σ H ⟨st, g, q⟩ => by
  have q : RG T X W (((ev P (cl P k) n).s j).bind fun f => match f with
    | .nx => sL (ev P (cl P k) n) js
    | f => Ev.ok f) st g σ H (okS D) := q
  refine ⟨st, g, q.bind.mono fun f st' g' σ' H' s' rel h' => ?_⟩
  cases f with
  | nx => exact ⟨st', g', h'⟩
  | bk =>
    have h0 : okS D .bk st' g' σ' H' := RG.ok0 (T := T) (X := X) (W := W) (a := Fl.bk) h'
    exact h0
  | ct =>
    have h0 : okS D .ct st' g' σ' H' := RG.ok0 (T := T) (X := X) (W := W) (a := Fl.ct) h'
    exact h0
  | rt r =>
    have h0 : okS D (.rt r) st' g' σ' H' := RG.ok0 (T := T) (X := X) (W := W) (a := Fl.rt r) h'
    exact h0
theorem ss_pass : SS P k T X W (.Pass pos) .pass := ss_mk (fun _ => ps_pass) fun n σ H D st g q => RG.ok0 (T := T) (X := X) (W := W) (a := Fl.nx) q
theorem ss_doc {n2 : Nat} : SS P k T X W (.Expr (.Constant (.str x) n2 p) pos) .pass := ss_mk (fun _ => ps_doc) fun n σ H D st g q => RG.ok0 (T := T) (X := X) (W := W) (a := Fl.nx) q
theorem ss_brk : SS P k T X W (.Break pos) .brk := ss_mk (fun _ => ps_break) fun n σ H D st g q => RG.ok0 (T := T) (X := X) (W := W) (a := Fl.bk) q
theorem ss_cnt : SS P k T X W (.Continue pos) .cnt := ss_mk (fun _ => ps_continue) fun n σ H D st g q => RG.ok0 (T := T) (X := X) (W := W) (a := Fl.ct) q
theorem ss_ex (h : SE P k T X W e i) (hs : swapsWith e none pos.line X.env = pure false := by rfl) : SS P k T X W (.Expr e pos) (.ex i) := ss_mk (fun n => ps_expr (h n) hs) fun n σ H D st g q =>
  ⟨st, g, okE_g q fun r st1 g1 H1 v rel1 s1 rv h1 => h1.ok0⟩
theorem ss_if (hc : ST P k T X W c ic) (ha : SSs P k T X W ss js) (hb : SSs P k T X W ss2 js2) : SS P k T X W (.If c ss ss2 pos) (.iff ic js js2) := ss_mk (fun n => ps_if (hc n) (ha n) (hb n)) fun n σ H D st g q =>
  ⟨st, g, (RG.bindE (m := (ev P (cl P k) n).t ic) (f := fun k' => if k' = true then sL (ev P (cl P k) n) js else sL (ev P (cl P k) n) js2) q).mono fun z st1 g1 H1 s1 rel1 h1 => by
    cases z with
    | true => rw [if_pos rfl] at h1 ⊢; exact ⟨st1, g1, h1⟩
    | false => rw [if_neg Bool.false_ne_true] at h1 ⊢; exact ⟨st1, g1, h1⟩⟩
/-! ### return -/
theorem ss_ret (h : SE P k T X W e i) (hi : ∀ r : Rec, retV r i = r.e i := by intro _; rfl) : SS P k T X W (.Return (some e) pos) (.ret i) := ss_mk (fun n => ps_ret (h n)) fun n σ H D st g q => by
  have q : RG T X W ((retV (ev P (cl P k) n) i).bind fun x => Ev.ok (.rt x)) st g σ H (okS D) := q
  rw [hi] at q
  exact ⟨st, g, q.bindE.mono fun r st1 g1 H1 s1 rel1 h1 v rv => RG.ok0 (T := T) (X := X) (W := W) (a := Fl.rt r) h1 v rv⟩
theorem ss_retN : SS P k T X W (.Return none pos) .retN := ss_mk (fun _ => ps_retN) fun n σ H D st g q => RG.ok0 (T := T) (X := X) (W := W) (a := Fl.rt (.val .non)) q .non .non
theorem Rel.drop {st : Sx} {g : GS} {σ : L2.St} {H : Hp} {i : Nat} {xs : List D} (r : Rel T X st g σ H) (e : st.env[i]? = some (.own xs)) : ∃ v, σ[i]? = some (some v) ∧ Rel T X { st with env := st.env.set i .un } g σ H ∧ RpR g H (st.env.set i .un) (.fresh xs) v := by
  have hi : i < st.env.length := (List.getElem?_eq_some_iff.mp e).1
  obtain ⟨vs, e1, h1, h2, h3, h4, h5⟩ := r.bd i _ e
  have old : ∀ j, Own (st.env.set i .un) j → Own st.env j ∧ j ≠ i := fun j ⟨ys, hj⟩ => by
    by_cases ej : j = i
    · subst ej
      rw [List.getElem?_set_self hi] at hj
      rcases hj with hj | hj <;> cases hj
    · rw [List.getElem?_set_ne (Ne.symm ej)] at hj
      exact ⟨⟨ys, hj⟩, ej⟩
  refine ⟨_, e1, ⟨r.tb, r.K, r.mg, r.lm, r.wd, by simpa using r.len, fun j c ej => ?_, fun j k hj hk => r.inj j k (old j hj).1 (old k hk).1, fun p hp => ?_⟩, _, vs, rfl, h1, h2, h3, h4, h5, fun j hj z => (old j hj).2 (r.inj j i (old j hj).1 ⟨xs, .inl e⟩ z)⟩
  · have ej : (st.env.set i .un)[j]? = some c := ej
    by_cases hj : j = i
    · subst hj
      rw [List.getElem?_set_self hi] at ej
      cases ej
      trivial
    · rw [List.getElem?_set_ne (Ne.symm hj)] at ej
      exact r.bd j c ej
  · obtain ⟨a, b⟩ := r.lam p hp
    refine ⟨?_, b⟩
    show (st.env.set i _)[p.i]? = _
    rw [List.getElem?_set_ne fun z => by rw [← z, e] at a; cases a]
    exact a
/-- return x: a list of ours goes over to the caller -/
theorem ss_retv (j : Nat) (hN : X.N[j]? = some x := by rfl) (hv : Vis X.env.scope x := by first | exact Or.inl rfl | exact Or.inr (Or.inl rfl) | exact Or.inr (Or.inr rfl)) (hd : (x == ("__debug__" : Str)) = false := by decide) (hcd : (x == ("__classdict__" : Str)) = false := by decide) :
    SS P k T X W (.Return (some (.Name x p)) pos) (.ret (.var j)) := ss_mk (fun n => ps_ret (pe_var hN hv hd hcd)) fun n σ H D st g q => by
  obtain ⟨rel, res, e, kk⟩ := q
  have e : (retV (ev P (cl P k) n) (.var j)).bind (fun x => Ev.ok (.rt x)) st = some res := e
  unfold Ev.bind retV at e
  cases hb : st.env[j]? with
  | none => simp only [hb] at e; cases e
  | some b =>
    have bd := rel.bd j b hb
    simp only [hb] at e
    cases b with
    | un => cases e
    | lent xs => cases e
    | val d =>
      cases e
      obtain ⟨v, e1, rv⟩ := bd
      exact ⟨v, e1, kk g σ H (.refl _ _) rel v rv⟩
    | own xs =>
      cases e
      obtain ⟨v, e1, rel2, rr⟩ := rel.drop hb
      exact ⟨v, e1, kk g σ H (.refl _ _) rel2 v rr⟩
/-! ### stores -/
theorem ss_set (jx : Nat) (hN : X.N.Nodup) (h : SE P k T X W e i) (hi : X.N[jx]? = some x := by rfl) (hx : Loc X.env.scope x := by first | exact Or.inl rfl | exact Or.inr rfl) (hs : swapsWith e (some (.Name x p)) pos.line X.env = pure false := by rfl) (hf : X.fn x = true ∨ X.env.scope.names.lookup x = some .local := by first | exact .inl rfl | exact .inr rfl) :
    SS P k T X W (.Assign [.Name x p] e pos) (.set (.nm jx) i) := ss_mk (fun n => ps_set hN hi hx (h n) hs hf) fun n σ H D st g q => by
  have q : RG T X W (((ev P (cl P k) n).e i).bind fun x => (putV jx x).bind fun _ => Ev.ok .nx) st g σ H (okS D) := q
  refine ⟨st, g, q.bindE.mono fun r st1 g1 H1 s1 rel1 h1 v rv => ?_⟩
  obtain ⟨g2, st2, s2, h2⟩ := h1.put rv
  exact RG.ok0 (T := T) (X := X) (W := W) (a := Fl.nx) h2
/-- name = [..] on one line, the name a local -/
theorem ss_setLc {elt iter : Expr} {ifs : List Expr} {ie ii : I} {iifs : List I} {t : List Nat} {one : Bool} {scope : Scope} {own : List (Str × Nat)} (jx : Nat) (o : XO P k T X W) (h : LcP P k T X W elt tg iter ifs scope own t one ie ii iifs) (hi : X.N[jx]? = some x := by rfl) (hx : X.env.scope.names.lookup x = some .local := by rfl)
    (hw : swapsWith (.ListComp elt [⟨tg, iter, ifs, 0⟩] scope p2) (some (.Name x p)) pos.line X.env = pure true) : SS P k T X W (.Assign [.Name x p] (.ListComp elt [⟨tg, iter, ifs, 0⟩] scope p2) pos) (.set (.nm jx) (.lc ie t one ii iifs (own.map (·.2)))) :=
  ss_mk (t := fun n => tSv T X W (((ev P (cl P k) n).e (.lc ie t one ii iifs (own.map (·.2)))).bind fun x => (putV jx x).bind fun _ => Ev.ok .nx)) (fun n => match n with
    | 0 => ps_void fun D σ H ⟨st, g, q⟩ => q.bindE.no
    | n + 1 => ps_weak (ps_setLc (tt := tTv T X W0 (ifsT (ev P (cl P k) n) iifs)) (te := tEv T X W0 ((ev P (cl P k) n).e ie)) o.calm o.nd hi hx hw (h.hi n) h.ok (fun s H C cl fp => h.hg s H C cl fp (o.blk s H _ _ fp)) (fun s H C cl fp => pts_weak (h.ht s H C cl fp (o.blk s H _ _ fp) n) fun σ H Q ⟨st, g, q⟩ => ⟨st, g, q.cx rfl rfl rfl⟩) (fun s H C cl fp => pe_weak (h.he s H C cl fp (o.blk s H _ _ fp) n) fun σ H Q ⟨st, g, q⟩ => ⟨st, g, q.cx rfl rfl rfl⟩) h.hs) fun D σ H ⟨st, g, q⟩ => by
      refine lc_rd (W := W) rfl h.hts (q.bindE.mono fun r st1 g1 H1 s1 rel1 h1 v rv => ?_)
      obtain ⟨g2, st2, s2, h2⟩ := h1.put rv
      exact RG.ok0 (T := T) (X := X) (W := W) (a := Fl.nx) h2) fun n σ H D st g q => ⟨st, g, q⟩
end
/-! ### targets -/
def tTg (T : Tbs) (X : Cx) (W : WX) (m : R → Ev Unit) : TG := fun v σ H Q => ∃ st g d, Rp g d v ∧ RG T X W (m (.val d)) st g σ H (fun _ _ _ σ H => Q σ H)
def SG (P : Prg) (k : Nat) (T : Tbs) (X : Cx) (W : WX) (tg : Expr) (t : Tt) : Prop := ∀ n, PG X tg (tTg T X W (putTt (ev P (cl P k) n) t))
def tTgs (T : Tbs) (X : Cx) (W : WX) (m : List D → Ev Unit) (n : Nat) : TGs := fun vs σ H Q => ∃ st g ds, RpL g ds vs ∧ ds.length = n ∧ RG T X W (m ds) st g σ H (fun _ _ _ σ H => Q σ H)
def SGs (P : Prg) (k : Nat) (T : Tbs) (X : Cx) (W : WX) (tgs : List Expr) (ts : List Tt) : Prop := ∀ n, PGs X tgs (tTgs T X W (putTs (ev P (cl P k) n) ts) ts.length)
theorem pg_weak {X : Cx} {e : Expr} {t t' : TG} (h : PG X e t) (w : ∀ v σ H Q, t' v σ H Q → t v σ H Q) : PG X e t' := ⟨fun pins s σ H v u Q I r q => h.run pins s σ H v u Q I r (w v σ H Q q)⟩
theorem pgs_weak {X : Cx} {e : List Expr} {t t' : TGs} (h : PGs X e t) (w : ∀ v σ H Q, t' v σ H Q → t v σ H Q) : PGs X e t' := ⟨fun pins s σ H v u Q I r q => h.run pins s σ H v u Q I r (w v σ H Q q)⟩
section
variable {P : Prg} {k : Nat} {T : Tbs} {X : Cx} {W : WX} {e a b c tg : Expr} {es tgs : List Expr} {i ia ib ic ii : I} {is : List I} {pos p p2 p3 pt : Pos} {x y z : Str} {s : Stmt} {ss ss2 : List Stmt} {j : J} {js js2 : List J} {tt : Tt} {tts : List Tt}
theorem sg_nm (jx : Nat) (hN : X.N.Nodup) (hi : X.N[jx]? = some x := by rfl) (hx : Loc X.env.scope x := by first | exact Or.inl rfl | exact Or.inr rfl) (hf : X.fn x = true ∨ X.env.scope.names.lookup x = some .local := by first | exact .inl rfl | exact .inr rfl) : SG P k T X W (.Name x pos) (.nm jx) := fun n =>
  pg_weak (pg_name hN hi hx hf) fun v σ H Q ⟨st, g, d, rv, q⟩ => by
    have q : RG T X W ((putV jx (.val d)).bind Ev.ok) st g σ H (fun _ _ _ σ H => Q σ H) := by
      obtain ⟨rel, res, e, kk⟩ := q
      refine ⟨rel, res, ?_, kk⟩
      have e : putV jx (.val d) st = some res := e
      unfold Ev.bind
      rw [e]
      obtain ⟨r, st'⟩ := res
      cases r <;> rfl
    obtain ⟨g2, st2, s2, h2⟩ := q.put (v := v) rv
    exact RG.ok0 (T := T) (X := X) (W := W) (a := ()) h2
theorem getO_rg {α : Type} {jx : Nat} {st : Sx} {g : GS} {σ : L2.St} {H : Hp} {f : Unit → Ev α} {OK : α → Sx → GS → L2.St → Hp → Prop} (h : RG T X W ((getO jx).bind f) st g σ H OK) : (∃ xs, st.env[jx]? = some (.own xs)) ∧ RG T X W (f ()) st g σ H OK := by
  obtain ⟨rel, res, e, kk⟩ := h
  unfold Ev.bind getO at e
  cases hb : st.env[jx]? with
  | none => simp only [hb] at e; cases e
  | some b =>
    simp only [hb] at e
    cases b with
    | own xs => exact ⟨⟨xs, rfl⟩, rel, res, e, kk⟩
    | _ => cases e
/-- x[e] = .., x a list of ours -/
theorem sg_ix (jx : Nat) (h : SE P k T X W e i) (hi : X.N[jx]? = some x := by rfl) (hv : Vis X.env.scope x := by first | exact Or.inl rfl | exact Or.inr (Or.inl rfl) | exact Or.inr (Or.inr rfl)) (hd : (x == ("__debug__" : Str)) = false := by decide) (hcd : (x == ("__classdict__" : Str)) = false := by decide)
    (ha : ∀ v, assign (.Subscript (.Name x p) e pos) X.env v = (do
      let ov ← holding [v] (eval (.Name x p) X.env)
      let iv ← holding [v, ov] (eval e X.env)
      standAt pos
      holding [v, ov, iv] (setItem ov iv v)
      release [v, ov, iv] []) := by intro _; rfl) : SG P k T X W (.Subscript (.Name x p) e pos) (.ix jx i) := fun n =>
  pg_weak (pg_sub (pe_var hi hv hd hcd) (h n) set_list ha) fun v σ H Q ⟨st, g, d, rv, q⟩ => by
    have q : RG T X W ((getO jx).bind fun _ => ((ev P (cl P k) n).e i).bind fun y => (Ev.of (intD y.d)).bind fun k => fun s => match s.env[jx]? with
      | some (.own xs) => (match ixD xs.length k with
        | some j => some (.ok (), { s with env := s.env.set jx (.own (xs.set j d)) })
        | none => none)
      | _ => none) st g σ H (fun _ _ _ σ H => Q σ H) := q
    obtain ⟨⟨xs0, hx0⟩, q1⟩ := getO_rg q
    obtain ⟨vs0, e1, _⟩ := q1.1.bd jx _ hx0
    refine ⟨_, e1, st, g, okE_g q1 fun y st1 g1 H1 w rel1 s1 rw' h1 => ?_⟩
    obtain ⟨kk, ek, h2⟩ := h1.bindE.of0
    obtain ⟨_, res, e, kq⟩ := h2
    cases hy : y.d with
    | int zz =>
      rw [hy] at ek rw'
      cases ek
      cases rw'
      cases hb : st1.env[jx]? with
      | none => simp only [hb] at e; cases e
      | some b =>
        simp only [hb] at e
        cases b with
        | own xs =>
          simp only at e
          cases hj : ixD xs.length kk with
          | none => rw [hj] at e; cases e
          | some jj =>
            rw [hj] at e
            cases e
            obtain ⟨vs, f1, f2, f3, f4⟩ := rel1.bd jx _ hb
            have eo : g1.om jx = g.om jx := V.ref.inj (Option.some.inj (Option.some.inj (f1.symm.trans e1)))
            have rv1 := rv.mono s1.gr
            obtain ⟨s3, rel3⟩ := rel1.setOwn hb (f3.set jj rv1)
            exact ⟨g1.om jx, vs, kk, jj, by rw [eo], rfl, f2, by rw [← f3.length]; exact hj, kq g1 σ _ s3 rel3⟩
        | _ => cases e
    | _ => rw [hy] at ek; cases ek
/-- o["k"] = .., o a cell -/
theorem sg_ky {n2 : Nat} (hu : X.A.units + 1 < cLine) (h : SE P k T X W e i)
    (ha : ∀ v, assign (.Subscript e (.Constant (.str z) n2 p) pos) X.env v = (do
      let ov ← holding [v] (eval e X.env)
      let iv ← holding [v, ov] (eval (.Constant (.str z) n2 p) X.env)
      standAt pos
      holding [v, ov, iv] (setItem ov iv v)
      release [v, ov, iv] []) := by intro _; rfl) : SG P k T X W (.Subscript e (.Constant (.str z) n2 p) pos) (.ky i z) := fun n =>
  pg_weak (pg_sub (h n) (pe_str (x := z)) (set_dict hu) ha) fun v σ H Q ⟨st, g, d, rv, q⟩ => by
    have q : RG T X W (((ev P (cl P k) n).e i).bind fun y => match y.d with
      | .cel n => fun s => match s.S[n]? with
        | some kvs => if kvs.length < line then some (.ok (), { s with S := s.S.set n (kvPut kvs z d) }) else none
        | none => none
      | _ => Ev.no) st g σ H (fun _ _ _ σ H => Q σ H) := q
    refine ⟨st, g, okE_g q fun y st1 g1 H1 w rel1 s1 rw' h1 => ?_⟩
    split at h1
    · rename_i m hy
      rw [hy] at rw'
      cases rw' with
      | @cel _ a hm =>
      obtain ⟨_, res, e, kq⟩ := h1
      cases hs : st1.S[m]? with
      | none => simp only [hs] at e; cases e
      | some kvs =>
        simp only [hs] at e
        by_cases hl : kvs.length < line
        · rw [if_pos hl] at e
          cases e
          obtain ⟨kv, e1, e2⟩ := rel1.wd.cel _ _ _ hm hs
          obtain ⟨s3, rel3⟩ := rel1.setCell hm hs (e2.put (s := z) (rv.mono s1.gr))
          refine ⟨a, _, rfl, DPut.k (k := .inr z) e1 (by rw [← e2.length, ← line_eq]; exact hl), kq g1 σ _ s3 rel3⟩
        · rw [if_neg hl] at e
          cases e
    · exact h1.no.elim
theorem sgs_nil : SGs P k T X W [] [] := fun n => pgs_weak pgs_nil fun vs σ H Q ⟨st, g, ds, r, hl, q⟩ => by
  cases r with
  | nil => exact ⟨rfl, RG.ok0 (T := T) (X := X) (W := W) (a := ()) q⟩
  | cons a b => cases hl
theorem sgs_cons (h : SG P k T X W tg tt) (hr : SGs P k T X W tgs tts) (hs : (assignEach (tg :: tgs) X.env).map (·.2) = assign tg X.env :: (assignEach tgs X.env).map (·.2) := by rfl) : SGs P k T X W (tg :: tgs) (tt :: tts) := fun n => pgs_weak (pgs_cons (h n) (hr n) hs) fun vs σ H Q ⟨st, g, ds, r, hl, q⟩ => by
  cases r with
  | nil => cases hl
  | @cons d ds v vs r1 r2 =>
    have q : RG T X W ((putTt (ev P (cl P k) n) tt (.val d)).bind fun _ => putTs (ev P (cl P k) n) tts ds) st g σ H (fun _ _ _ σ H => Q σ H) := q
    exact ⟨v, vs, rfl, st, g, d, r1, q.bind.mono fun _ st1 g1 σ1 H1 s1 rel1 h1 => ⟨st1, g1, ds, r2.mono s1.gr, by simpa using hl, h1⟩⟩
/-- target = e, one target that is no name -/
theorem ss_asg (hg : SG P k T X W tg tt) (h : SE P k T X W e i) (hn : ∀ m, tt ≠ .nm m := by exact fun _ q => nomatch q) (hs : swapsWithSole [tg] e pos.line X.env = pure false := by rfl) (hw : swappedStores [tg] e X.env = pure none := by rfl) (h1 : (assignEach [tg] X.env).map (·.2) = [assign tg X.env] := by rfl) :
    SS P k T X W (.Assign [tg] e pos) (.set tt i) := ss_mk (fun n => ps_asg (h n) (hg n) hs hw h1) fun n σ H D st g q => by
  have q : RG T X W (((ev P (cl P k) n).e i).bind fun x => (putTt (ev P (cl P k) n) tt (.val x.d)).bind fun _ => Ev.ok .nx) st g σ H (okS D) := by
    cases tt with
    | nm m => exact (hn m rfl).elim
    | _ => exact q
  exact ⟨st, g, okE_g q fun r st1 g1 H1 v rel1 s1 rv h1 => ⟨st1, g1, r.d, rv, h1.bind.mono fun _ st2 g2 σ2 H2 s2 rel2 h2 => RG.ok0 (T := T) (X := X) (W := W) (a := Fl.nx) h2⟩⟩
/-- (a, b, ..) = a tuple or a list of that length -/
theorem pg_tl {es : List Expr} {k : Nat} {t : TGs} {n : Nat} {pos : Pos} (hc : X.calm = true) (h : PGs X es t) (hn : (assignEach es X.env).length = n := by rfl) (hst : (assignEach es X.env).findIdx? (·.1) = none := by rfl) :
    PG X (.Tuple es k pos) (fun v σ H Q => gTup X.K n t v σ H Q ∨ gLst X.K n t v σ H Q) :=
  ⟨fun pins s σ H v u Q I r hw => hw.elim (fun z => (pg_tup hc h hn hst).run pins s σ H v u Q I r z) (fun z => (pg_lst hc h hn hst).run pins s σ H v u Q I r z)⟩
/-- (a, b, ..) = e -/
theorem ss_setT {kt : Nat} (hc : X.calm = true) (hg : SGs P k T X W tgs tts) (h : SE P k T X W e i) (hn : (assignEach tgs X.env).length = tts.length := by rfl) (hst : (assignEach tgs X.env).findIdx? (·.1) = none := by rfl) (hs : swapsWithSole [.Tuple tgs kt p] e pos.line X.env = pure false := by rfl) (hw : swappedStores [.Tuple tgs kt p] e X.env = pure none := by rfl) (h1 : (assignEach [.Tuple tgs kt p] X.env).map (·.2) = [assign (.Tuple tgs kt p) X.env] := by rfl) :
    SS P k T X W (.Assign [.Tuple tgs kt p] e pos) (.setT tts i) := ss_mk (fun n => ps_asg (h n) (pg_tl hc (hg n) hn hst) hs hw h1) fun n σ H D st g q => by
  have q : RG T X W (((ev P (cl P k) n).e i).bind fun x => match x.d with
    | .tup ds => if ds.length = tts.length then (putTs (ev P (cl P k) n) tts ds).bind fun _ => Ev.ok .nx else Ev.no
    | .lst ds => if ds.length = tts.length then (putTs (ev P (cl P k) n) tts ds).bind fun _ => Ev.ok .nx else Ev.no
    | _ => Ev.no) st g σ H (okS D) := q
  refine ⟨st, g, okE_g q fun r st1 g1 H1 v rel1 s1 rv h1 => ?_⟩
  split at h1
  · rename_i ds hd
    rw [hd] at rv
    obtain ⟨hl, h2⟩ := h1.ifT
    cases rv with
    | tup hq hr => exact .inl ⟨_, _, rfl, by rw [← rel1.K]; exact sqT_mono rel1.wd.sub hq, by rw [← hr.length, hl], st1, g1, ds, hr, hl, h2.bind.mono fun _ st2 g2 σ2 H2 s2 rel2 h3 => RG.ok0 (T := T) (X := X) (W := W) (a := Fl.nx) h3⟩
  · rename_i ds hd
    rw [hd] at rv
    obtain ⟨hl, h2⟩ := h1.ifT
    cases rv with
    | lst hq hr => exact .inr ⟨_, _, rfl, SqL.of (rel1.wd.sub _ _ hq), by rw [← hr.length, hl], st1, g1, ds, hr, hl, h2.bind.mono fun _ st2 g2 σ2 H2 s2 rel2 h3 => RG.ok0 (T := T) (X := X) (W := W) (a := Fl.nx) h3⟩
  · exact h1.no.elim
/-- a, b = x, y: plain names, stored from the right -/
theorem par_go : ∀ {js : List Nat} {ds : List D} {vs : List V} {α : Type} {f : Unit → Ev α} {st : Sx} {g : GS} {σ : L2.St} {H : Hp} {OK : α → Sx → GS → L2.St → Hp → Prop}, RG T X W ((putPar js ds).bind f) st g σ H OK → RpL g ds vs → js.length = ds.length →
    ∃ g' st', Step g H g' H ∧ RG T X W (f ()) st' g' ((js.zip vs).foldr (fun p σ => σ.set p.1 (some p.2)) σ) H OK
  | [], [], _, α, f, st, g, σ, H, OK, h, .nil, _ => ⟨g, st, .refl _ _, RG.ok0 (T := T) (X := X) (W := W) (a := ()) (OK := fun _ st' g' σ' H' => RG T X W (f ()) st' g' σ' H' OK) h.bind⟩
  | jx :: js, d :: ds, _, α, f, st, g, σ, H, OK, h, @RpL.cons _ _ _ v vs a b, hl => by
    have h2 : RG T X W ((putPar js ds).bind fun _ => (putV jx (.val d)).bind f) st g σ H OK := by
      obtain ⟨rel, res, e, kk⟩ := h
      refine ⟨rel, res, ?_, kk⟩
      rw [← e]
      show ((putPar js ds).bind fun _ => (putV jx (.val d)).bind f) st = (((putPar js ds).bind fun _ => putV jx (.val d)).bind f) st
      unfold Ev.bind
      cases putPar js ds st with
      | none => rfl
      | some r =>
        obtain ⟨r, st'⟩ := r
        cases r <;> rfl
    obtain ⟨g1, st1, s1, h3⟩ := par_go h2 b (by simpa using hl)
    obtain ⟨g2, st2, s2, h4⟩ := h3.put (v := v) (show RpR g1 H st1.env (.val d) v from a.mono s1.gr)
    exact ⟨g2, st2, s1.trans s2, h4⟩
theorem ss_par2 (j1 j2 : Nat) {kt k2 : Nat} (o : XO P k T X W) (h : SA P k T X W [a, b] [ia, ib]) (hi : X.N[j1]? = some x := by rfl) (hj : X.N[j2]? = some y := by rfl) (hij : j1 ≠ j2 := by decide) (hx : X.env.scope.names.lookup x = some .local := by rfl) (hy : X.env.scope.names.lookup y = some .local := by rfl)
    (hw : swappedStores [.Tuple [.Name x p, .Name y p2] kt p3] (.Tuple [a, b] k2 pt) X.env = pure (some [x, y]) := by rfl) (hs : swapsWithSole [.Tuple [.Name x p, .Name y p2] kt p3] (.Tuple [a, b] k2 pt) pos.line X.env = pure false := by rfl) :
    SS P k T X W (.Assign [.Tuple [.Name x p, .Name y p2] kt p3] (.Tuple [a, b] k2 pt) pos) (.par [j1, j2] [ia, ib]) := ss_mk (fun n => ps_par o.calm o.nd hi hj hij hx hy (h n) hw hs) fun n σ H D st g q => by
  have q : RG T X W ((eA (ev P (cl P k) n) [ia, ib]).bind fun ds => if ds.length = 2 then (putPar [j1, j2] ds).bind fun _ => Ev.ok .nx else Ev.no) st g σ H (okS D) := q
  refine ⟨st, g, q.bindE.mono fun ds st1 g1 H1 s1 rel1 h1 vs rvs => ?_⟩
  obtain ⟨hl, h2⟩ := h1.ifT
  obtain ⟨g2, st2, s2, h3⟩ := par_go h2 rvs hl.symm
  have hl2 : vs.length = 2 := by rw [← rvs.length]; exact hl
  match vs, hl2 with
  | [v, w], _ =>
    refine ⟨v, w, rfl, ?_⟩
    have h4 := RG.ok0 (T := T) (X := X) (W := W) (a := Fl.nx) h3
    have h5 : D.nx ((σ.set j2 (some w)).set j1 (some v)) H1 := h4
    rw [List.set_comm _ _ hij]
    exact h5
theorem ss_par3 (j1 j2 j3 : Nat) {kt k2 : Nat} {pz : Pos} (o : XO P k T X W) (h : SA P k T X W [a, b, c] [ia, ib, ic]) (hi : X.N[j1]? = some x := by rfl) (hj : X.N[j2]? = some y := by rfl) (hk : X.N[j3]? = some z := by rfl) (hij : j1 ≠ j2 := by decide) (hik : j1 ≠ j3 := by decide) (hjk : j2 ≠ j3 := by decide) (hx : X.env.scope.names.lookup x = some .local := by rfl) (hy : X.env.scope.names.lookup y = some .local := by rfl) (hz : X.env.scope.names.lookup z = some .local := by rfl)
    (hw : swappedStores [.Tuple [.Name x p, .Name y p2, .Name z pz] kt p3] (.Tuple [a, b, c] k2 pt) X.env = pure (some [x, y, z]) := by rfl) (hs : swapsWithSole [.Tuple [.Name x p, .Name y p2, .Name z pz] kt p3] (.Tuple [a, b, c] k2 pt) pos.line X.env = pure false := by rfl) :
    SS P k T X W (.Assign [.Tuple [.Name x p, .Name y p2, .Name z pz] kt p3] (.Tuple [a, b, c] k2 pt) pos) (.par [j1, j2, j3] [ia, ib, ic]) := ss_mk (fun n => ps_par3 o.calm o.nd hi hj hk hij hik hjk hx hy hz (h n) hw hs) fun n σ H D st g q => by
  have q : RG T X W ((eA (ev P (cl P k) n) [ia, ib, ic]).bind fun ds => if ds.length = 3 then (putPar [j1, j2, j3] ds).bind fun _ => Ev.ok .nx else Ev.no) st g σ H (okS D) := q
  refine ⟨st, g, q.bindE.mono fun ds st1 g1 H1 s1 rel1 h1 vs rvs => ?_⟩
  obtain ⟨hl, h2⟩ := h1.ifT
  obtain ⟨g2, st2, s2, h3⟩ := par_go h2 rvs hl.symm
  have hl2 : vs.length = 3 := by rw [← rvs.length]; exact hl
  match vs, hl2 with
  | [u, v, w], _ =>
    refine ⟨u, v, w, rfl, ?_⟩
    have h4 := RG.ok0 (T := T) (X := X) (W := W) (a := Fl.nx) h3
    have h5 : D.nx (((σ.set j3 (some w)).set j2 (some v)).set j1 (some u)) H1 := h4
    have e : ((σ.set j1 (some u)).set j2 (some v)).set j3 (some w) = ((σ.set j3 (some w)).set j2 (some v)).set j1 (some u) := by
      rw [List.set_comm _ _ hij, List.set_comm _ _ hik, List.set_comm _ _ hjk]
    rw [e]
    exact h5
/-- x += e, ints -/
theorem aug_go {jx : Nat} {op : Operator} {F : Int → Int → Int} (hop : (op = .Add ∧ F = fun a b => a + b) ∨ (op = .Sub ∧ F = fun a b => a - b)) {n : Nat} {σ : L2.St} {H : Hp} {D : Ends} {st : Sx} {g : GS} (q : RG T X W (S1 P (ev P (cl P k) n) (.aug jx op i)) st g σ H (okS D)) :
    tAug jx (tEv T X W ((ev P (cl P k) n).e i)) (ipI F) D σ H := by
  have q : RG T X W ((getP jx).bind fun _ => ((ev P (cl P k) n).e i).bind fun y => (resP (.var jx)).bind fun x => match op, x, y.d with
    | .Add, .int a, .int b => (putV jx (.val (.int (a + b)))).bind fun _ => Ev.ok .nx
    | .Sub, .int a, .int b => (putV jx (.val (.int (a - b)))).bind fun _ => Ev.ok .nx
    | _, _, _ => Ev.no) st g σ H (okS D) := q
  obtain ⟨rel, _⟩ := id q
  have hx : ∃ v, σ[jx]? = some (some v) := by
    obtain ⟨_, res, e, _⟩ := q
    unfold Ev.bind getP at e
    cases hb : st.env[jx]? with
    | none => simp only [hb] at e; cases e
    | some b =>
      have bd := rel.bd jx b hb
      cases b with
      | un => simp only [hb] at e; cases e
      | val d => obtain ⟨v, e1, _⟩ := bd; exact ⟨v, e1⟩
      | own d => obtain ⟨v, e1, _⟩ := bd; exact ⟨_, e1⟩
      | lent d => obtain ⟨v, e1, _⟩ := bd; exact ⟨_, e1⟩
  obtain ⟨v, hv⟩ := hx
  have q1 : RG T X W (((ev P (cl P k) n).e i).bind fun y => (resP (.var jx)).bind fun x => match op, x, y.d with
    | .Add, .int a, .int b => (putV jx (.val (.int (a + b)))).bind fun _ => Ev.ok .nx
    | .Sub, .int a, .int b => (putV jx (.val (.int (a - b)))).bind fun _ => Ev.ok .nx
    | _, _, _ => Ev.no) st g σ H (okS D) := by
    obtain ⟨_, res, e, kk⟩ := q
    refine ⟨rel, res, ?_, kk⟩
    unfold Ev.bind getP at e
    cases hb : st.env[jx]? with
    | none => simp only [hb] at e; cases e
    | some b => cases b <;> simp only [hb] at e <;> first | exact e | (cases e; done)
  refine ⟨v, hv, st, g, okE_g q1 fun y st1 g1 H1 w rel1 s1 rw' h1 => ?_⟩
  obtain ⟨d, rd, k1⟩ := resP_ok (v := v) h1.bindE hv
  have h2 := k1 _ _ (.refl _ _) rel1
  have go : ∀ a b, d = .int a → y.d = .int b → RG T X W ((putV jx (.val (.int (F a b)))).bind fun _ => Ev.ok .nx) st1 g1 σ H1 (okS D) → ipI F v w H1 fun z H2 => D.nx (σ.set jx (some z)) H2 := by
    intro a b e1 e2 h3
    rw [e1] at rd
    rw [e2] at rw'
    cases rw'
    have ev := rd.int
    obtain ⟨g2, st2, s2, h4⟩ := h3.put (v := .int (F a b)) (show RpR g1 H1 st1.env (.val (.int (F a b))) (.int (F a b)) from .int _)
    exact ⟨a, b, ev, rfl, RG.ok0 (T := T) (X := X) (W := W) (a := Fl.nx) h4⟩
  cases d with
  | int a =>
    cases hy : y.d with
    | int b =>
      rw [hy] at h2
      refine go a b rfl hy ?_
      rcases hop with ⟨rfl, rfl⟩ | ⟨rfl, rfl⟩
      · exact h2
      · exact h2
    | _ => rw [hy] at h2; cases op <;> exact h2.no.elim
  | _ => cases op <;> exact h2.no.elim
theorem ss_augA (jx : Nat) (hN : X.N.Nodup) (h : SE P k T X W e i) (hi : X.N[jx]? = some x := by rfl) (hx : Loc X.env.scope x := by first | exact Or.inl rfl | exact Or.inr rfl) (hf : X.fn x = true ∨ X.env.scope.names.lookup x = some .local := by first | exact .inl rfl | exact .inr rfl) : SS P k T X W (.AugAssign (.Name x p) .Add e pos) (.aug jx .Add i) :=
  ss_mk (fun n => ps_aug hN hi hx (h n) ip_add hf) fun n σ H D st g q => aug_go (.inl ⟨rfl, rfl⟩) q
theorem ss_augS (jx : Nat) (hN : X.N.Nodup) (h : SE P k T X W e i) (hi : X.N[jx]? = some x := by rfl) (hx : Loc X.env.scope x := by first | exact Or.inl rfl | exact Or.inr rfl) (hf : X.fn x = true ∨ X.env.scope.names.lookup x = some .local := by first | exact .inl rfl | exact .inr rfl) : SS P k T X W (.AugAssign (.Name x p) .Sub e pos) (.aug jx .Sub i) :=
  ss_mk (fun n => ps_aug hN hi hx (h n) ip_sub hf) fun n σ H D st g q => aug_go (.inr ⟨rfl, rfl⟩) q
/-! ### loops -/
theorem RG.putT {t : List Nat} {one : Bool} {d : D} {v : V} {α : Type} {f : Unit → Ev α} {st : Sx} {g : GS} {σ : L2.St} {H : Hp} {OK : α → Sx → GS → L2.St → Hp → Prop} {Q : L2.St → Hp → Prop} (h : RG T X W ((Rf.putT t one d).bind f) st g σ H OK) (r : Rp g d v) (q : ∀ st2 σ2, RG T X W (f ()) st2 g σ2 H OK → Q σ2 H) : gRd X.K t one v σ H Q := by
  obtain ⟨rel, res, e, kk⟩ := h
  unfold Ev.bind at e
  cases hm : Rf.putT t one d st with
  | none => rw [hm] at e; cases e
  | some r1 =>
    obtain ⟨st2, σ2, e1, rel2, _, gq⟩ := putT_ok rel hm r
    rw [hm, e1] at e
    exact gq Q (q st2 σ2 ⟨rel2, res, e, kk⟩)
theorem ss_for {t : List Nat} {one : Bool} {iter : Expr} (o : XS P k T X W) (hi : SI P k T X W tg iter ii) (hg : PG X tg (gRd X.K t one)) (hb : SSs P k T X W ss js) (hs : ∀ x, foldedSetIterable iter X.env x = pure x := by intro _; rfl) : SS P k T X W (.For tg iter ss [] pos) (.for_ t one ii js) :=
  ss_mk (fun n => ps_for o.po o.o.calm (hi n) hg (hb n) hs) fun n σ H D st g q => by
    have q : RG T X W ((eI (ev P (cl P k) n) ii).bind fun r => Rf.lending r.2 (forL t one (sL (ev P (cl P k) n) js) r.1)) st g σ H (okS D) := q
    refine ⟨st, g, q.bindE.mono fun ⟨ds, is⟩ st1 g1 H1 s1 rel1 h1 J wk => ?_⟩
    obtain ⟨L, lf, h2⟩ := h1.lending (D := D) fun f st' st2 g' g2 σ' H' ho eg _ ok => by
      cases f with
      | rt r => exact fun v rv => ok v (by rw [eg]; exact rv.lamS fun i => (ho i).mp)
      | _ => exact ok
    obtain ⟨G, Y, w, wk2⟩ := wk L lf
    refine for_it w (D := D) (fun i σ' H' => ∃ st' g', Gr g1 g' ∧ (∀ p ∈ L, p ∈ g'.lam) ∧ RG T X W (forL t one (sL (ev P (cl P k) n) js) (ds.drop i)) st' g' σ' H' (okS D)) ⟨_, _, gr_lam, fun p hp => List.mem_append_left _ hp, h2⟩ (fun i σ' H' hi a => ?_) (fun i x σ' H' H2 hi a y => ?_) (fun σ' H' a => ?_)
    · obtain ⟨st', g', gr, hl, a⟩ := a
      exact (wk2 X st' g' σ' H' gr hl a.1).1
    · obtain ⟨st', g', gr, hl, a⟩ := a
      obtain ⟨d, g3, ed, s3, rel3, rd⟩ := (wk2 X st' g' σ' H' gr hl a.1).2 i x H2 hi y
      have hdrop : ds.drop i = d :: ds.drop (i + 1) := by
        obtain ⟨hi', e'⟩ := List.getElem?_eq_some_iff.mp ed
        rw [← e']
        exact List.drop_eq_getElem_cons hi'
      have a2 := a.shift s3 rel3
      rw [hdrop] at a2
      refine RG.putT (t := t) (one := one) (d := d) (f := fun _ => (sL (ev P (cl P k) n) js).bind fun f => match f with
        | .nx => forL t one (sL (ev P (cl P k) n) js) (ds.drop (i + 1))
        | .ct => forL t one (sL (ev P (cl P k) n) js) (ds.drop (i + 1))
        | .bk => Ev.ok .nx
        | .rt x => Ev.ok (.rt x)) a2 rd fun st4 σ4 h4 => ⟨st4, g3, h4.bind.mono fun f st5 g5 σ5 H5 s5 rel5 h5 => ?_⟩
      have nxt : RG T X W (forL t one (sL (ev P (cl P k) n) js) (ds.drop (i + 1))) st5 g5 σ5 H5 (okS D) → ∃ st' g', Gr g1 g' ∧ (∀ p ∈ L, p ∈ g'.lam) ∧ RG T X W (forL t one (sL (ev P (cl P k) n) js) (ds.drop (i + 1))) st' g' σ5 H5 (okS D) := fun h => ⟨st5, g5, gr.trans (s3.gr.trans s5.gr), fun p hp => by rw [s5.lam, s3.lam]; exact hl p hp, h⟩
      cases f with
      | nx => exact nxt h5
      | ct => exact nxt h5
      | bk => exact RG.ok0 (T := T) (X := X) (W := W) (a := Fl.nx) h5
      | rt r =>
        have h0 : okS D (.rt r) st5 g5 σ5 H5 := RG.ok0 (T := T) (X := X) (W := W) (a := Fl.rt r) h5
        exact h0
    · obtain ⟨st', g', gr, hl, a⟩ := a
      rw [List.drop_length] at a
      exact RG.ok0 (T := T) (X := X) (W := W) (a := Fl.nx) a
theorem ss_whl (o : XS P k T X W) (hc : ST P k T X W c ic) (hb : SSs P k T X W ss js) : SS P k T X W (.While c ss [] pos) (.whl ic js) :=
  ss_mk (fun n => ps_while o.po (hc n) (hb n)) fun n σ H D st g q => by
    have q : RG T X W (whlL ((ev P (cl P k) n).t ic) (sL (ev P (cl P k) n) js) P.wf) st g σ H (okS D) := q
    refine ⟨fun m σ' H' => ∃ st' g', RG T X W (whlL ((ev P (cl P k) n).t ic) (sL (ev P (cl P k) n) js) m) st' g' σ' H' (okS D), ⟨P.wf, st, g, q⟩, fun m σ' H' ⟨st', g', a⟩ => ?_⟩
    cases m with
    | zero => exact a.no.elim
    | succ m =>
      have a : RG T X W (((ev P (cl P k) n).t ic).bind fun b => if b = true then (sL (ev P (cl P k) n) js).bind fun f => match f with
        | .nx => whlL ((ev P (cl P k) n).t ic) (sL (ev P (cl P k) n) js) m
        | .ct => whlL ((ev P (cl P k) n).t ic) (sL (ev P (cl P k) n) js) m
        | .bk => Ev.ok .nx
        | .rt x => Ev.ok (.rt x)
        else Ev.ok .nx) st' g' σ' H' (okS D) := a
      refine ⟨st', g', a.bindE.mono fun b st1 g1 H1 s1 rel1 h1 => ?_⟩
      cases b with
      | false =>
        rw [if_neg Bool.false_ne_true] at h1 ⊢
        exact RG.ok0 (T := T) (X := X) (W := W) (a := Fl.nx) h1
      | true =>
        rw [if_pos rfl] at h1 ⊢
        refine ⟨fun σ2 H2 => ∃ st' g', RG T X W (whlL ((ev P (cl P k) n).t ic) (sL (ev P (cl P k) n) js) m) st' g' σ2 H2 (okS D), fun σ2 H2 h => ⟨m, Nat.lt_succ_self m, h⟩, st1, g1, h1.bind.mono fun f st2 g2 σ2 H2 s2 rel2 h2 => ?_⟩
        cases f with
        | nx => exact ⟨st2, g2, h2⟩
        | ct => exact ⟨st2, g2, h2⟩
        | bk => exact RG.ok0 (T := T) (X := X) (W := W) (a := Fl.nx) h2
        | rt r =>
          have h0 : okS D (.rt r) st2 g2 σ2 H2 := RG.ok0 (T := T) (X := X) (W := W) (a := Fl.rt r) h2
          exact h0
/-! ### targets of loops, code that is not come to -/
theorem pg1 (jx : Nat) (hN : X.N.Nodup) (hi : X.N[jx]? = some x := by rfl) (hx : Loc X.env.scope x := by first | exact Or.inl rfl | exact Or.inr rfl) (hf : X.fn x = true ∨ X.env.scope.names.lookup x = some .local := by first | exact .inl rfl | exact .inr rfl) : PG X (.Name x pos) (gRd X.K [jx] true) := pg_name hN hi hx hf
theorem pgn_nil : PGs X [] (gNames []) := pgs_nil
theorem pgn_cons {t : List Nat} (jx : Nat) (hN : X.N.Nodup) (h : PGs X es (gNames t)) (hi : X.N[jx]? = some x := by rfl) (hx : Loc X.env.scope x := by first | exact Or.inl rfl | exact Or.inr rfl) (hf : X.fn x = true ∨ X.env.scope.names.lookup x = some .local := by first | exact .inl rfl | exact .inr rfl)
    (hs : (assignEach (.Name x pos :: es) X.env).map (·.2) = assign (.Name x pos) X.env :: (assignEach es X.env).map (·.2) := by rfl) : PGs X (.Name x pos :: es) (gNames (jx :: t)) := pgs_cons (pg_name hN hi hx hf) h hs
theorem pgT {t : List Nat} {kt : Nat} (hc : X.calm = true) (h : PGs X es (gNames t)) (hg : gRd X.K t false = gTup X.K t.length (gNames t) := by rfl) (hn : (assignEach es X.env).length = t.length := by rfl) (hst : (assignEach es X.env).findIdx? (·.1) = none := by rfl) : PG X (.Tuple es kt pos) (gRd X.K t false) := by
  rw [hg]
  exact pg_tup hc h hn hst
theorem se_nev : SE P k T X W e (.rng ia) := fun n => pe_void fun σ H Q ⟨st, g, q⟩ => by
  cases n with
  | zero => exact q.no
  | succ n => exact RD.no (T := T) (X := X) (W := W) (α := R) q
theorem ss_nev : SS P k T X W s (.ex (.rng ia)) := fun n => ps_void fun D σ H ⟨st, g, q⟩ => by
  cases n with
  | zero => exact q.no
  | succ n =>
    have q : RG T X W (((ev P (cl P k) n).e (.rng ia)).bind fun _ => Ev.ok .nx) st g σ H (okS D) := q
    have q1 := q.bindE
    cases n with
    | zero => exact q1.no
    | succ n => exact RD.no (T := T) (X := X) (W := W) (α := R) q1
end
end Rf
/-! Ry: raise, try -/
namespace Rf
open PySem PySem.Spec L2 PyProof.Rows
section
variable {P : Prg} {k : Nat} {T : Tbs} {X : Cx} {W : WX} {e a b c tg : Expr} {es : List Expr} {i ia ib ic ii : I} {is : List I} {pos p p2 p3 pt : Pos} {x y z : Str} {s : Stmt} {ss ss2 : List Stmt} {j : J} {js js2 : List J}
/-- raise C(e, ..) -/
theorem ss_rse {fs : List Str} (o : XO P k T X W) (hx : P.excs.lookup x = some fs) (ha : SA P k T X W (e :: es) is) (hg : Gl X x := by rfl) (hdb : (x == ("__debug__" : Str)) = false := by decide)
    (he : starEach (e :: es) X.env = (false, eval e X.env) :: starEach es X.env := by rfl) (hpl : (backTo p2 (starEach es X.env)).any (·.1) = false := by rfl) : SS P k T X W (.Raise (some (.Call (.Name x p) (e :: es) [] p2)) none pos) (.rse x is) :=
  ss_mk (t := fun n => tSv T X W (S1 P (ev P (cl P k) n) (.rse x is))) (fun n => by
    obtain ⟨C, fI, fd, ps, hm, oc, iC, tI, hb, F1, xf, hno, hnd, h15⟩ := (o.ex x fs hx).ex
    refine ps_weak (ps_raise o.calm o.tk (pmk_oex (dvs := []) (ds := []) oc iC tI F1 (o.room.mono (by omega)) hb .nil pass0 hg hm (ha n) hdb he hpl)) fun D σ H ⟨st, g, q⟩ => ?_
    have q : RG T X W ((eA (ev P (cl P k) n) is).bind fun ds => fun s => match P.excs.lookup x with
      | some fs => if fs.length = ds.length ∧ ds.length ≤ 15 then some (.error ⟨x, fs.zip ds⟩, s) else none
      | none => none) st g σ H (okS D) := q
    refine ⟨st, g, q.bindE.mono fun ds st1 g1 H1 s1 rel1 h1 vs rvs => ?_⟩
    obtain ⟨_, res, e, kk⟩ := h1
    simp only [hx] at e
    by_cases hl : fs.length = ds.length ∧ ds.length ≤ 15
    · rw [if_pos hl] at e
      cases e
      have hv := rvs.length
      refine ⟨by omega, fun ad hn => ⟨ad, vs ++ [], rfl, by rw [List.append_nil]; omega, upd_same, fun d H2 acc hd ea ed hlk hot => ⟨rfl, d, acc, ea, ed, ?_, ?_⟩⟩⟩
      · have hda : d ≠ ad := fun z => by rw [z, upd_same] at hd; cases hd
        rw [upd_ne hda] at hd
        exact hd
      · have hda : d ≠ ad := fun z => by rw [z, upd_same] at hd; cases hd
        rw [upd_ne hda] at hd
        have eH : upd (del H2 ad) d (.xd acc) = upd H1 d (.xd acc) := by
          funext b
          by_cases h1 : b = d
          · rw [h1, upd_same, upd_same]
          · rw [upd_ne h1, upd_ne h1]
            by_cases h2 : b = ad
            · rw [h2, del_same, hn]
            · rw [del_ne h2, hot b h2 h1, upd_ne h2]
        rw [eH]
        obtain ⟨s2, rel2⟩ := rel1.new0 (o := .xd acc) hd
        refine kk g1 σ _ _ _ s2 rel2 ⟨C, d, acc, by rw [rel1.mg]; exact hm, rfl, rfl, upd_same, fun f de hf => ?_⟩
        have go : ∀ {fs : List Str} {ds : List Rf.D} {vs : List V}, RpL g1 ds vs → (fs.zip ds).lookup f = some de → ∃ v, (fs.zip vs).lookup f = some v ∧ Rp g1 de v := by
          intro fs
          induction fs with
          | nil => intro ds vs _ h; simp at h
          | cons y fs ih =>
            intro ds vs r h
            cases r with
            | nil => simp at h
            | @cons d0 ds v0 vs r1 r2 =>
              rw [List.zip_cons_cons, List.lookup_cons] at h
              rw [List.zip_cons_cons, List.lookup_cons]
              cases hfy : f == y with
              | true =>
                rw [hfy] at h
                cases h
                exact ⟨v0, rfl, r1⟩
              | false =>
                rw [hfy] at h
                exact ih r2 h
        obtain ⟨v, e1, e2⟩ := go rvs hf
        exact ⟨v, by rw [hlk f]; rw [List.append_nil]; exact e1, e2⟩
    · rw [if_neg hl] at e
      cases e) fun n σ H D st g q => ⟨st, g, q⟩
end
/-! ### several clauses that bind the error -/
def wMA (K : PySem.W.Frag) (Wout : WX) (D : Ends) : List (Value × Nat × (Addr → Value → Option Addr → TS)) → WX
  | [] => Wout
  | (c, i, ts) :: r => fun cls d σ H => ∃ b, PySem.W.exmOne K cls c = some b ∧ (b = true → ∀ a, H a = none → ts a cls d { nx := fun σ2 H2 => D.nx (σ2.set i none) H2, rt := D.rt, bk := fun σ2 H2 => D.bk (σ2.set i none) H2, ct := fun σ2 H2 => D.ct (σ2.set i none) H2 } (σ.set i (some (.ref a))) H) ∧
    (b = false → wMA K Wout D r cls d σ H)
inductive HdsA (X : Cx) : List ExceptHandler → List (Value × Nat × (Addr → Value → Option Addr → TS)) → Prop
  | nil : HdsA X [] []
  | cons {x n : Str} {c : Value} {i : Nat} {ts : Addr → Value → Option Addr → TS} {b0 : Stmt} {suite : List Stmt} {np pos2 : Pos} {hds : List ExceptHandler} {l : List (Value × Nat × (Addr → Value → Option Addr → TS))} (hc : Names X x c) (hi : X.N[i]? = some n) (hln : X.env.kindOf n = some .local)
      (hsu : ∀ (a : Addr) (oe : Obj) (cls : Value) (d : Option Addr) (pn : List (Addr × Obj)), Zc cls d oe → (∃ vs, oe.data = .fields vs) → PSs (X.suite a ((a, oe) :: pn)) (b0 :: suite) (ts a cls d)) (r : HdsA X hds l) :
      HdsA X (.ExceptHandler (some (.Name x np)) (some n) (b0 :: suite) pos2 :: hds) ((c, i, ts) :: l)
section
variable {X : Cx} {body : List Stmt} {h0 : ExceptHandler} {hds : List ExceptHandler} {l : List (Value × Nat × (Addr → Value → Option Addr → TS))} {pos : Pos} {tb : WX → TS} {Wout : WX}
theorem ps_tryA (hs : X.stack = X.env :: X.outer) (hf : X.env.frame = some X.env.locals) (hN : X.N.Nodup) (tk : Takes X Wout)
    (hb : ∀ (W : WX) (pn : List (Addr × Obj)) (xe : Value → Shared → Prop), Takes (X.tr pn xe) W → PassesOwn (model X.prog X.w) X.A X.env xe → PSs (X.tr pn xe) body (tb W))
    (hh : HdsA X (h0 :: hds) l) : PS X (.Try body (h0 :: hds) [] [] pos) (fun D σ H => tb (wMA X.K Wout D l) D σ H) := by
  refine ⟨fun pins s σ H D I0 h => ?_⟩
  have ok := I0.ok
  have hfr : X.A.frames = some (X.env :: X.outer) := by rw [← hs]; exact ok.frames
  refine wpAny_Try_except ?_
  refine wpAny_mono ((hb (wMA X.K Wout D l) (X.pn ++ pins) (fun e t1 => wpAny (model X.prog X.w) X.A (noteFrame e X.env) (fun _ t2 => wpAny (model X.prog X.w) X.A (setFlight e none) (fun _ t3 =>
    wpAny (model X.prog X.w) X.A (handleBy e X.env (h0 :: hds)) (L2.SP X pins D) X.xe t3) X.xe t2) X.xe t1) (fun u s2 xx => ?_) PassesOwn.looking).run [] s σ H D (I0.toTry _) h) (fun f s1 hsp => ?_) (fun e s1 he => he)
  · obtain ⟨a, B, sI, pins2, σ2, H2, cls, d, rfl, J0, nb, up, sky, na, os, ag, wish⟩ := xx
    have J : Inv X pins σ2 H2 sI := J0.ofTry ok
    have sky2 : Sky B (X.env :: X.outer) a (Zc cls d) X.env.locals s2.heap := by rw [← hs]; exact sky
    show wpAny (model X.prog X.w) X.A (noteFrame (.ref a) X.env) _ _ _
    refine Sky.land Zc.steady hfr hf sky2 fun g3 fl up3 => ?_
    have J3 : Inv X pins σ2 H2 { s2 with heap := g3 } := J.landed nb fl.1 (up.trans up3) os ag
    obtain ⟨oe, ws, he, hz, hd⟩ := fl.there
    have nfr : a ∉ frs (X.env :: X.outer) := fun hm => by
      obtain ⟨_, o2, e2, hnf⟩ := fl.2.2.1.mem hm
      rw [he] at e2
      cases e2
      exact hnf _ hd
    have nL : a ≠ X.env.locals := fun z => nfr (List.mem_filterMap.mpr ⟨X.env, List.mem_cons_self, by rw [hf, z]⟩)
    have nF : a ∉ X.fs := fun hm => by
      obtain ⟨e2, he2, q⟩ := List.mem_filterMap.mp hm
      exact nfr (List.mem_filterMap.mpr ⟨e2, List.mem_cons_of_mem _ he2, q⟩)
    have S3 := J3.suite he hd na nL nF
    have go : ∀ {hs2 : List ExceptHandler} {l2 : List (Value × Nat × (Addr → Value → Option Addr → TS))}, HdsA X hs2 l2 → wMA X.K Wout D l2 cls d σ2 H2 →
        wpAny (model X.prog X.w) X.A (handleBy (.ref a) X.env hs2) (L2.SP X pins D) X.xe { s2 with heap := g3 } := by
      intro hs2 l2 hk
      induction hk with
      | nil =>
        intro wish2
        refine wpAny_handleBy_nil ?_
        obtain ⟨k1, k2, k3, oe2, vs2, Tb2, oT, ts2, he2, hz2, hd2, h12, hr2⟩ := id fl
        unfold PySem.passOn
        refine wpAny_bind (wpAny_field he2 hd2 h12 ?_)
        rw [if_neg (show ¬ ((Value.ref Tb2 == Value.none) = true) from by simp)]
        have last : wpAny (model X.prog X.w) X.A (setFlight (.ref a) X.env.frame) (fun _ s4 => wpAny (model X.prog X.w) X.A (throw (.ref a) : Sem Flow) (L2.SP X pins D) X.xe s4) X.xe { s2 with heap := g3 } := by
          rw [hf]
          exact HandSPX.setFlight_upZ fl fun g4 hh4 up4 => wpAny_throw (tk _ _ ⟨a, B, sI, pins, σ2, H2, cls, d, rfl, J, nb, (up.trans up3).trans up4, .inr (.inr (by rw [hs]; exact hh4)), na, os, ag, wish2⟩)
        first
          | exact wpAny_bind (wpAny_pure (wpAny_bind last))
          | exact wpAny_bind last
      | @cons x n c i ts b0 suite np pos2 hds2 l3 hc hi hln hsu r ih =>
        intro wish2
        obtain ⟨b, hb1, hyes, hno⟩ := wish2
        refine wpAny_handleBy_cons (codeAny_handlers_test ?_) (by intro q; cases q)
        have LT : PySem.W.Looks (model X.prog X.w) g3 (typeOf (.ref a)) cls := fun A2 Q2 E2 t2 kp q => wpAny_typeOf_ref (kp _ _ he) (by rw [hz.1]; exact q)
        have LM := PySem.W.exm_one (M := model X.prog X.w) (J3.kIn) LT hb1
        have look : ∀ {Q2 : Value → Shared → Prop} {E2 : Value → Shared → Prop}, Q2 c { s2 with heap := g3 } → wpAny (model X.prog X.w) (X.A.mark (some (.ref a))) (eval (.Name x np) X.env) Q2 E2 { s2 with heap := g3 } := fun {Q2 E2} q => by
          obtain ⟨hg, hdbg, hm | ⟨hm, hv, hnn⟩⟩ := hc
          · exact ld_glob (X := X.suite a ((a, oe) :: (X.pn ++ pins))) S3 hg hm q hdbg
          · exact ld_blt (X := X.suite a ((a, oe) :: (X.pn ++ pins))) S3 hg hm hv q hnn hdbg
        refine look (LM.here ?_)
        cases b with
        | false =>
          show wpAny _ X.A (handleBy (.ref a) X.env hds2) _ _ _
          exact ih (hno rfl)
        | true =>
          refine codeAny_handlers_suite_as ?_
          refine HandSPX.lands_againZ fl fun g4 fl4 up4 => ?_
          have J4 : Inv X pins σ2 H2 { s2 with heap := g4 } := J.landed nb fl4.1 ((up.trans up3).trans up4) os ag
          obtain ⟨oe4, ws4, he4, hz4, hd4⟩ := fl4.there
          have S4 := J4.suite he4 hd4 na nL nF
          refine store_ok (X := X.suite a ((a, oe4) :: (X.pn ++ pins))) (v := .ref a) S4 hN hi (.inl hln) rfl (fun s5 S5 => ?_) (.inr hln)
          refine wpAny_mono ((hsu a oe4 cls d (X.pn ++ pins) hz4 ⟨_, hd4⟩).run [] s5 _ H2 _ S5 (hyes rfl a na)) (fun f s6 hsp => ?_) (fun _ _ z => False.elim z)
          have fin : ∀ {σ6 : L2.St} {H6 : Hp} {Q6 : Shared → Prop}, Inv (X.suite a ((a, oe4) :: (X.pn ++ pins))) [] σ6 H6 s6 → (∀ s7, Inv X pins (σ6.set i none) H6 s7 → Q6 s7) →
              wpAny (model X.prog X.w) X.A (do bindName X.env n .none; unbindBehindTheSuite X.env n pos2) (fun _ s7 => Q6 s7) X.xe s6 := fun {σ6 H6 Q6} S6 hq => gone_ok (S6.unsuite ok) hN hi hln hq
          cases f with
          | next =>
            obtain ⟨σ6, H6, S6, q6⟩ := hsp
            exact fin S6 fun s7 J7 => ⟨_, _, J7, q6⟩
          | brk =>
            obtain ⟨σ6, H6, S6, q6⟩ := hsp
            exact fin S6 fun s7 J7 => ⟨_, _, J7, q6⟩
          | cont =>
            obtain ⟨σ6, H6, S6, q6⟩ := hsp
            exact fin S6 fun s7 J7 => ⟨_, _, J7, q6⟩
          | ret u =>
            obtain ⟨v6, σ6, H6, S6, r6, q6⟩ := hsp
            exact fin S6 fun s7 J7 => ⟨_, _, _, J7, r6, q6⟩
    exact go hh wish
  · cases f with
    | next =>
      obtain ⟨σ2, H2, J0, q⟩ := hsp
      exact wpAny_execs_nil ⟨σ2, H2, J0.ofTry ok, q⟩
    | brk =>
      obtain ⟨σ2, H2, J0, q⟩ := hsp
      exact ⟨σ2, H2, J0.ofTry ok, q⟩
    | cont =>
      obtain ⟨σ2, H2, J0, q⟩ := hsp
      exact ⟨σ2, H2, J0.ofTry ok, q⟩
    | ret u =>
      obtain ⟨v, σ2, H2, J0, r, q⟩ := hsp
      exact ⟨v, σ2, H2, J0.ofTry ok, r, q⟩
end
end Rf
/-! Rz: try, except x as n: return (.., n.f, ..) -/
namespace Rf
open PySem PySem.Spec L2 PyProof.Rows
theorem RG.cx {α : Type} {T : Tbs} {X X2 : Cx} {W : WX} {st : Sx} {g : GS} {σ : L2.St} {H : Hp} {m : Ev α} {OK : α → Sx → GS → L2.St → Hp → Prop} (h : RG T X W m st g σ H OK) (hK : X2.K = X.K) (hm : X2.mg = X.mg) (hB : X2.base = X.base) : RG T X2 W m st g σ H OK := by
  obtain ⟨rel, ⟨r, st'⟩, e, k⟩ := h
  refine ⟨rel.cx hK hm hB, _, e, ?_⟩
  cases r with
  | ok a => exact fun g' σ' H' s rel' => k g' σ' H' s (rel'.cx hK.symm hm.symm hB.symm)
  | error x => exact fun g' σ' H' cls d s rel' rx => k g' σ' H' cls d s (rel'.cx hK.symm hm.symm hB.symm) rx
/-- what a clause hands back -/
def tHd (a : Addr) (cls : Value) (d : Option Addr) (C : Addr) (i : Nat) : List (Str ⊕ Str) → TA
  | [] => tNil
  | .inl z :: r => tCons (tC (.str z)) (tHd a cls d C i r)
  | .inr f :: r => tCons (tXf a cls d C f (tVar i)) (tHd a cls d C i r)
def SHd (X : Cx) (C : Addr) (i : Nat) (es : List Expr) (q : List (Str ⊕ Str)) : Prop :=
  ∀ (a : Addr) (oe : Obj) (cls : Value) (d : Option Addr) (pn : List (Addr × Obj)), Zc cls d oe → (∃ vs, oe.data = .fields vs) → PA (X.suite a ((a, oe) :: pn)) es (tHd a cls d C i q)
section
variable {X : Cx} {C : Addr} {i : Nat} {es : List Expr} {q : List (Str ⊕ Str)} {p pos : Pos} {n f z : Str} {fs : List Str}
theorem shd_nil : SHd X C i [] [] := fun _ _ _ _ _ _ _ => pa_nil
theorem shd_str {j : Nat} (h : SHd X C i es q) (hs : starEach (.Constant (.str z) j p :: es) X.env = (false, eval (.Constant (.str z) j p) X.env) :: starEach es X.env := by rfl) : SHd X C i (.Constant (.str z) j p :: es) (.inl z :: q) :=
  fun a oe cls d pn h1 h2 => pa_cons (X := X.suite a ((a, oe) :: pn)) pe_str (h a oe cls d pn h1 h2) hs
theorem shd_fld (hf : XfC X.K C ∧ ∀ f ∈ fs, PySem.W.findIn X.K (.ref C) f = some none) (h : SHd X C i es q) (hm : f ∈ fs := by decide) (hi : X.N[i]? = some n := by rfl) (hv : Vis X.env.scope n := by first | exact Or.inl rfl | exact Or.inr (Or.inl rfl)) (hd : (n == ("__debug__" : Str)) = false := by decide) (hcd : (n == ("__classdict__" : Str)) = false := by decide)
    (hb : attributeBase (.Name n p) f X.env (eval (.Name n p) X.env) = eval (.Name n p) X.env := by rfl) (hs : starEach (.Attribute (.Name n p) f pos :: es) X.env = (false, eval (.Attribute (.Name n p) f pos) X.env) :: starEach es X.env := by rfl) : SHd X C i (.Attribute (.Name n p) f pos :: es) (.inr f :: q) :=
  fun a oe cls d pn h1 h2 => pa_cons (X := X.suite a ((a, oe) :: pn)) (pe_xf hf.1 (hf.2 f hm) h1 h2 (pe_var (X := X.suite a ((a, oe) :: pn)) hi hv hd hcd) hb) (h a oe cls d pn h1 h2) hs
end
/-- clauses, told -/
inductive HdR (P : Prg) (X : Cx) : List ExceptHandler → List (Str × Nat × List (Str ⊕ Str)) → List (Value × Nat × (Addr → Value → Option Addr → TS)) → Prop
  | nil : HdR P X [] [] []
  | cons {x n : Str} {C : Addr} {i kt : Nat} {fs : List Str} {es : List Expr} {q : List (Str ⊕ Str)} {np pos pos2 pt : Pos} {hds : List ExceptHandler} {hs : List (Str × Nat × List (Str ⊕ Str))} {l : List (Value × Nat × (Addr → Value → Option Addr → TS))} (hx : P.excs.lookup x = some fs) (hm : X.mg x = some (.ref C)) (hc : Names X x (.ref C))
      (hi : X.N[i]? = some n) (hln : X.env.kindOf n = some .local) (hq : SHd X C i es q) (r : HdR P X hds hs l) :
      HdR P X (.ExceptHandler (some (.Name x np)) (some n) [.Return (some (.Tuple es kt pt)) pos] pos2 :: hds) ((x, i, q) :: hs) ((.ref C, i, fun a cls d => tRet (tTup (tHd a cls d C i q))) :: l)
theorem HdR.ok {P : Prg} {X : Cx} {hds : List ExceptHandler} {hs : List (Str × Nat × List (Str ⊕ Str))} {l : List (Value × Nat × (Addr → Value → Option Addr → TS))} (h : HdR P X hds hs l) : HdsA X hds l := by
  induction h with
  | nil => exact .nil
  | cons hx hm hc hi hln hq r ih => exact .cons hc hi hln (fun a oe cls d pn h1 h2 => pss_one (ps_ret (pe_tup (hq a oe cls d pn h1 h2)))) ih
section
variable {P : Prg} {k : Nat} {T : Tbs} {X : Cx} {W : WX} {pos p : Pos} {body : List Stmt} {js : List J} {hds : List ExceptHandler} {hs : List (Str × Nat × List (Str ⊕ Str))} {l : List (Value × Nat × (Addr → Value → Option Addr → TS))}
theorem hd_go {y : Exn} {g : GS} {H : Hp} {σ : L2.St} {a dd C : Addr} {i : Nat} {fs : List (Str × V)} (h0 : σ[i]? = some (some (.ref a))) (hd : H dd = some (.xd fs)) (hf : ∀ f e, y.fs.lookup f = some e → ∃ v, fs.lookup f = some v ∧ Rp g e v) : ∀ {q : List (Str ⊕ Str)} {ds : List D}, hdV y q = some ds → ∃ vs, RpL g ds vs ∧ ∀ Q : List V → Hp → Prop, Q vs H → tHd a (.ref C) (some dd) C i q σ H Q
  | [], _, e => by cases e; exact ⟨[], .nil, fun Q z => z⟩
  | .inl z :: q, ds, e => by
    simp only [hdV, Option.map_eq_some_iff] at e
    obtain ⟨ds', e1, rfl⟩ := e
    obtain ⟨vs, r, k⟩ := hd_go h0 hd hf e1
    exact ⟨_, .cons (.str z) r, fun Q y => k (fun xs H2 => Q (.str z :: xs) H2) y⟩
  | .inr f :: q, ds, e => by
    simp only [hdV] at e
    cases h1 : y.fs.lookup f with
    | none => rw [h1] at e; cases e
    | some d0 =>
      cases h2 : hdV y q with
      | none => rw [h1, h2] at e; cases e
      | some ds' =>
        rw [h1, h2] at e
        cases e
        obtain ⟨v, e1, e2⟩ := hf f d0 h1
        obtain ⟨vs, r, k⟩ := hd_go h0 hd hf h2
        exact ⟨_, .cons e2 r, fun Q y => ⟨.ref a, h0, rfl, rfl, dd, fs, v, rfl, hd, e1, k (fun xs H2 => Q (v :: xs) H2) y⟩⟩
theorem HdR.go (o : XO P k T X W) {y : Exn} {C0 dd : Addr} {fs0 : List Str} {fs : List (Str × V)} {g : GS} {H : Hp} {σ : L2.St} {st : Sx} {D : Ends} (h : HdR P X hds hs l) (hx : P.excs.lookup y.cls = some fs0) (hm : X.mg y.cls = some (.ref C0)) (hd : H dd = some (.xd fs)) (hf : ∀ f e, y.fs.lookup f = some e → ∃ v, fs.lookup f = some v ∧ Rp g e v)
    (rel : Rel T X st g σ H) (hl : (hs.all fun h => decide (h.2.1 < st.env.length)) = true) : ∀ {v : R}, hdsV y hs = some v → (∀ g' H', Step g H g' H' → Rel T X st g' σ H' → okS D (.rt v) st g' σ H') → wMA X.K W D l (.ref C0) (some dd) σ H := by
  induction h with
  | nil => intro v e; cases e
  | @cons x n C i kt fs1 es q np pos pos2 pt hds hs l hx1 hm1 hc hi hln hq r ih =>
    intro v e kk
    simp only [List.all_cons, Bool.and_eq_true] at hl
    refine ⟨decide (y.cls = x), o.em _ _ _ _ _ _ hx hx1 hm hm1, fun hb a ha => ?_, fun hb => ?_⟩
    · have hb := of_decide_eq_true hb
      have eC : C0 = C := by
        rw [hb, hm1] at hm
        exact Value.ref.inj (Option.some.inj hm.symm)
      subst eC
      simp only [hdsV, if_pos hb] at e
      cases h1 : hdV y q with
      | none => rw [h1] at e; cases e
      | some ds =>
        rw [h1] at e
        have e : (if ds.length ≤ line then some (R.val (.tup ds)) else none) = some v := e
        split at e
        · rename_i hz
          cases e
          have hi2 : i < σ.length := by rw [← rel.len]; exact of_decide_eq_true hl.1
          obtain ⟨vs, rv, kq⟩ := hd_go (C := C0) (a := a) (σ := σ.set i (some (.ref a))) (i := i) (by rw [List.getElem?_set_self hi2]) hd hf h1
          refine kq _ ⟨by rw [← rv.length, ← line_eq]; exact hz, fun p2 hp => ?_⟩
          obtain ⟨g', s, rel', rp⟩ := rel.newT hp rv
          exact kk g' _ s rel' _ rp
        · cases e
    · have hb := of_decide_eq_false hb
      simp only [hdsV, if_neg hb] at e
      exact ih hl.2 e kk
theorem ss_try {h0 : ExceptHandler} (o : XS P k T X W) (hb : ∀ (W2 : WX) (pn : List (Addr × Obj)) (xe : Value → Shared → Prop), XS P k T (X.tr pn xe) W2 → SSs P k T (X.tr pn xe) W2 body js) (hh : ∃ l, HdR P X (h0 :: hds) hs l) (hst : X.stack = X.env :: X.outer := by rfl) (hf : X.env.frame = some X.env.locals := by rfl) : SS P k T X W (.Try body (h0 :: hds) [] [] pos) (.try_ js hs) := by
  obtain ⟨l, hh⟩ := hh
  refine ss_mk (fun n => ps_tryA (tb := fun W2 => tSv T X W2 (sL (ev P (cl P k) n) js)) hst hf o.o.nd o.o.tk (fun W2 pn xe tk po => pss_weak (hb W2 pn xe ⟨o.o.tr tk, po⟩ n) fun D σ H ⟨st, g, q⟩ => ⟨st, g, q.cx rfl rfl rfl⟩) hh.ok) fun n σ H D st g q => ?_
  obtain ⟨rel, res, e, kk⟩ := q
  refine ⟨st, g, rel, ?_⟩
  have e : (match sL (ev P (cl P k) n) js st with
    | some (.error x, s') => if (P.excs.lookup x.cls).isSome = true ∧ (hs.all fun h => decide (h.2.1 < s'.env.length)) = true then (match hdsV x hs with
      | some v => some (.ok (.rt v), s')
      | none => none) else none
    | o => o) = some res := e
  cases hm : sL (ev P (cl P k) n) js st with
  | none => rw [hm] at e; cases e
  | some r1 =>
    obtain ⟨r, st'⟩ := r1
    rw [hm] at e
    refine ⟨_, rfl, ?_⟩
    cases r with
    | ok f =>
      cases e
      exact kk
    | error y =>
      simp only at e
      split at e
      · rename_i hc
        cases hv : hdsV y hs with
        | none => rw [hv] at e; cases e
        | some v =>
          rw [hv] at e
          cases e
          obtain ⟨fs0, hx⟩ := Option.isSome_iff_exists.mp hc.1
          intro g' σ' H' cls d s rel' rx
          obtain ⟨C, dd, fs, e1, rfl, rfl, e4, e5⟩ := rx
          exact hh.go o.o hx (by rw [← rel'.mg]; exact e1) e4 e5 rel' hc.2 hv fun g2 H2 s2 rel2 => kk g2 σ' H2 (s.trans s2) rel2
      · cases e
/-- the clauses' list -/
theorem hdr_nil : ∃ l, HdR P X [] [] l := ⟨[], .nil⟩
theorem hdr_cons {x n : Str} {kt : Nat} {fs : List Str} {es : List Expr} {q : List (Str ⊕ Str)} {np pos pos2 pt : Pos} (i : Nat) (o : XO P k T X W) (hx : P.excs.lookup x = some fs) (hq : ∀ C, XfC X.K C ∧ (∀ f ∈ fs, PySem.W.findIn X.K (.ref C) f = some none) → SHd X C i es q) (r : ∃ l, HdR P X hds hs l) (hg : Gl X x := by rfl) (hdb : (x == ("__debug__" : Str)) = false := by decide) (hi : X.N[i]? = some n := by rfl) (hln : X.env.kindOf n = some .local := by rfl) :
    ∃ l, HdR P X (.ExceptHandler (some (.Name x np)) (some n) [.Return (some (.Tuple es kt pt)) pos] pos2 :: hds) ((x, i, q) :: hs) l := by
  obtain ⟨l, r⟩ := r
  obtain ⟨C, fI, fd, ps, hm, oc, iC, tI, hb, F1, xf, hno, hnd, h15⟩ := (o.ex x fs hx).ex
  exact ⟨_, .cons hx hm ⟨hg, hdb, .inl hm⟩ hi hln (hq C ⟨xf, hno⟩) r⟩
end
end Rf
/-! Rf15: a def keeps its promise -/
namespace Rf
open PySem PySem.Spec L2
theorem start_val {N : List Str} {vs : List V} {i : Nat} {v : V} (h : vs[i]? = some v) : (L2.start N vs)[i]? = some (some v) := by
  unfold L2.start
  rw [List.getElem?_append_left (by rw [List.length_map]; exact (List.getElem?_eq_some_iff.mp h).1), List.getElem?_map, h]
  rfl
theorem rel_start {T : Tbs} {X : Cx} {g : GS} {S : Sto} {L : List (Option D)} {ds : List D} {vs : List V} {H : Hp} {N : List Str} {n : Nat} (hT : g.tabs = T) (hK : g.K = X.K) (hm : g.mg = X.mg) (hL : LmOk X.base g L) (hl : g.lam = []) (w : Wd g H S) (r : RpL g ds vs) (hn : N.length = n) (hv : vs.length ≤ n) :
    Rel T X ⟨ds.map .val ++ List.replicate (n - ds.length) .un, S, L⟩ g (L2.start N vs) H := by
  have own : ∀ i, ¬ Own (ds.map Bd.val ++ List.replicate (n - ds.length) .un) i := fun i ⟨xs, h⟩ => by
    by_cases hi : i < ds.length
    · rw [List.getElem?_append_left (by rw [List.length_map]; exact hi), List.getElem?_map] at h
      cases hd : ds[i]? with
      | none => rw [hd] at h; rcases h with h | h <;> cases h
      | some d => rw [hd] at h; rcases h with h | h <;> cases h
    · rw [List.getElem?_append_right (by rw [List.length_map]; omega), List.getElem?_replicate] at h
      split at h <;> rcases h with h | h <;> cases h
  refine ⟨hT, hK, hm, hL, w, ?_, fun i b e => ?_, fun i j hi => (own i hi).elim, fun p hp => by rw [hl] at hp; cases hp⟩
  · have := r.length
    show (ds.map Bd.val ++ List.replicate (n - ds.length) Bd.un).length = (L2.start N vs).length
    unfold L2.start
    simp only [List.length_append, List.length_map, List.length_replicate]
    omega
  · have e : (ds.map Bd.val ++ List.replicate (n - ds.length) Bd.un)[i]? = some b := e
    by_cases hi : i < ds.length
    · rw [List.getElem?_append_left (by rw [List.length_map]; exact hi), List.getElem?_map] at e
      cases hd : ds[i]? with
      | none => rw [hd] at e; cases e
      | some d =>
        rw [hd] at e
        cases e
        obtain ⟨v, h1, h2⟩ := r.get hd
        exact ⟨v, start_val h1, h2⟩
    · rw [List.getElem?_append_right (by rw [List.length_map]; omega), List.getElem?_replicate] at e
      split at e <;> cases e
      trivial
/-- the run of a def's body is what its promise asks -/
theorem body_rg {P : Prg} {k : Nat} {T : Tbs} {X : Cx} {x : Str} {df : Df} {n : Nat} {vs : List V} {H : Hp} {Q : VK} {E : XK} {N : List Str} (hf : P.defs.lookup x = some df) (hN : N.length = df.N) (hp : df.ps.length ≤ df.N) (hn : n = df.ps.length) (h : spF P (k + 1) X.K X.mg T X.base x n vs H Q E) :
    tSv T X (fun cls d _ H' => E cls d H') (sL (ev P (cl P k) P.af) df.body) { nx := fun _ H' => Q .non H', rt := Q } (L2.start N vs) H := by
  obtain ⟨hl, g, S, L, ds, res, eK, em, el, eT, eB, w, lm, r, e, kf⟩ := h
  unfold callN at e
  rw [hf] at e
  simp only at e
  have hr := r.length
  rw [if_pos (by rw [hr, hl, hn])] at e
  refine ⟨⟨ds.map .val ++ List.replicate (df.N - ds.length) .un, S, L⟩, g, rel_start eT eK em lm el w r hN (by omega), ?_⟩
  cases hs : sL (ev P (cl P k) P.af) df.body ⟨ds.map .val ++ List.replicate (df.N - ds.length) .un, S, L⟩ with
  | none =>
    have hs' : sL (ev P (callN P k) P.af) df.body ⟨ds.map .val ++ List.replicate (df.N - ds.length) .un, S, L⟩ = none := hs
    rw [hs'] at e
    cases e
  | some rs =>
    have hs' : sL (ev P (callN P k) P.af) df.body ⟨ds.map .val ++ List.replicate (df.N - ds.length) .un, S, L⟩ = some rs := hs
    obtain ⟨rr, st'⟩ := rs
    rw [hs'] at e
    refine ⟨_, rfl, ?_⟩
    cases rr with
    | error y =>
      cases e
      exact fun g' σ' H' cls d s rel rx => kf g' H' cls d s rel.wd rx
    | ok f =>
      cases f with
      | nx =>
        cases e
        exact fun g' σ' H' s rel => kf g' H' .non s rel.wd .non
      | rt y =>
        cases e
        refine fun g' σ' H' s rel v rv => kf g' H' v s rel.wd ?_
        cases y with
        | val d => exact rv
        | fresh xs =>
          obtain ⟨a, us, e1, h1, h2, h3, h4, h5, _⟩ := rv
          exact ⟨a, us, e1, h1, h2, h3, h4, h5, fun i ⟨zs, hz⟩ => by rcases hz with hz | hz <;> cases hz⟩
      | bk => cases e
      | ct => cases e
/-- what the head says of the module's names -/
structure ModOk (Pr : Program) (w : World) (K : PySem.W.Frag) (mg : Str → Option Value) (base : Heap) (P : Prg) : Prop where
  fr : ∀ x, P.free.contains x = true → mg x = none
  gl : ∀ x d, P.glbs.lookup x = some d → ∃ u v, mg x = some u ∧ RelV v u ∧ ∀ g : GS, g.K = K → g.mg = mg → Rp g d v
  bf : ∀ x id, P.bfn.lookup x = some id → mg x = some (.builtin id)
  ex : ∀ c fs, P.excs.lookup c = some fs → XcK Pr w K mg base c fs
  nl : ∀ y lm, P.lams.lookup y = some lm → mg y = none
  em : ∀ c fs c2 fs2 C C2, P.excs.lookup c = some fs → P.excs.lookup c2 = some fs2 → mg c = some (.ref C) → mg c2 = some (.ref C2) → PySem.W.exmOne K (.ref C) (.ref C2) = some (decide (c = c2))
/-- the context of a def's body -/
abbrev cxG (Pr : Program) (w : World) (K : PySem.W.Frag) (mg : Str → Option Value) (base : Heap) (N : List Str) (qual : Str) (scope : Scope) (f : Addr) (cd : Value) (A : Around) (outer : List Env) (s : Shared) (H : Hp) (E : XK) : Cx := cxOf (L2.CX Pr w) Pr w K mg base N qual scope f cd A outer s H E
section
variable {Pr : Program} {w : World} {K : PySem.W.Frag} {mg : Str → Option Value} {base : Heap} {P : Prg} {k : Nat} {T : Tbs}
theorem xs_of {N ps : List Str} {qual : Str} {scope : Scope} {f : Addr} {cd : Value} {A : Around} {outer : List Env} {s : Shared} {H : Hp} {E : XK} (S : FnScope N ps scope) (hr : Room (k + 2) (A.deeper (PyProof.Rows.envOfC qual scope s.heap.objs.size f cd))) (hg : A.guards = some []) (M : ModOk Pr w K mg base P) (F : ∀ j, j ≤ k → ∀ x df, P.defs.lookup x = some df → ∀ B, Big base B → DefK Pr w K mg B P j T x df.ps.length) :
    XS P k T (cxG Pr w K mg base N qual scope f cd A outer s H E) (fun cls d _ H' => E cls d H') :=
  ⟨⟨S.nd, rfl, takes_of rfl rfl rfl rfl, hr, hg, F, M.fr, M.gl, M.bf, M.ex, M.nl, M.em⟩, passes_of rfl⟩
/-- one def -/
theorem def_g {x qual : Str} {params : Arguments} {body : List Stmt} {scope : Scope} {f : Addr} {fd : FuncData} {N ps : List Str} {df : Df} (F : FunD K x qual params body scope [] [] f fd) (S : FnScope N ps scope) (hf : P.defs.lookup x = some df) (hN : N.length = df.N) (hp : ps.length = df.ps.length) (hpn : df.ps.length ≤ df.N) (M : ModOk Pr w K mg base P)
    (hb : ∀ (kV doc pm : Value) (an : Option Addr) (cdv ct : Value) (us : List Value), us.length = ps.length → bindArgs (PySem.W.fnOf x qual params body scope .none kV doc pm an cdv ct) ⟨us, []⟩ = pure (ps.zip us)) (hm : mg x = some (.ref f))
    (IH : ∀ j, j ≤ k → ∀ y d, P.defs.lookup y = some d → ∀ B, Big base B → DefK Pr w K mg B P j T y d.ps.length)
    (der : ∀ (cd : Value) (A : Around) (outer : List Env) (s : Shared) (H : Hp) (E : XK), XS P k T (cxG Pr w K mg base N qual scope f cd A outer s H E) (fun cls d _ H' => E cls d H') → SSs P k T (cxG Pr w K mg base N qual scope f cd A outer s H E) (fun cls d _ H' => E cls d H') body df.body) :
    DefK Pr w K mg base P (k + 1) T x df.ps.length := by
  have B : L2.Binds K fd ps [] := F.bindsN hb
  refine ⟨f, fd, ps, hm, F.kp, B, hp, ⟨fun A outer s H args us vs Q E hr hg e0 hbs r hl h => ?_⟩⟩
  obtain ⟨oc, od, dV, kV, doc, pm, an, cdv, ct, osl, rfl, lk, hcd, _, _⟩ := F.ex
  exact LamX.run_ofS (k := k + 2) (CX := L2.CX Pr w) lk hcd S hr e0 hbs r hl fun hr2 => ⟨_, der cdv A outer s H E (xs_of S hr2 hg M IH) P.af, body_rg (X := cxG Pr w K mg base N qual scope f cdv A outer s H E) hf hN hpn rfl h⟩
end
end Rf
/-! Rl: lambdas: made, handed on, called -/
namespace Rf
open PySem PySem.Spec L2 PyProof.Rows
/-! ### made -/
theorem ext_ne {p : Heap → Prop} (ps : Array Value) : HO.ext p ≠ .tbl ps := fun z => nomatch z
theorem fnO_ok {Pr : Program} {w : World} {H : Hp} {h : Heap} {f c : Addr} {r : LmR} {pm ct : Value} (e : h.get? f = some (PySem.W.kla_obj "<lambda>" r.q r.params r.body r.scope r.clos pm c ct)) : ObjOk Pr w H h f (FnO f r pm c ct) :=
  ⟨e, ⟨_, e⟩, fun h1 h2 z k => k _ z⟩
theorem fnO_at {Pr : Program} {w : World} {H : Hp} {h : Heap} {f c : Addr} {r : LmR} {pm ct : Value} (hok : HOk Pr w H h) (e : H f = some (FnO f r pm c ct)) : h.get? f = some (PySem.W.kla_obj "<lambda>" r.q r.params r.body r.scope r.clos pm c ct) := by
  have x : ObjOk Pr w H h f (.ext fun h => h.get? f = some (PySem.W.kla_obj "<lambda>" r.q r.params r.body r.scope r.clos pm c ct)) := hok f _ e
  exact x.1
theorem codeO_at {Pr : Program} {w : World} {H : Hp} {h : Heap} {c : Addr} {q : Str} (hok : HOk Pr w H h) (e : H c = some (LamX.CodeO c q)) : ∃ (oc : Obj) (vs : Array Value) (t : Tok), h.get? c = some oc ∧ oc.data = .fields vs ∧ vs[1]? = some (.str q t) := by
  have x : ObjOk Pr w H h c (.ext fun h => ∃ (oc : Obj) (vs : Array Value) (t : Tok), h.get? c = some oc ∧ oc.data = .fields vs ∧ vs[1]? = some (.str q t)) := hok c _ e
  exact x.1
section
variable {T : Tbs} {X : Cx} {W : WX} {st : Sx} {g : GS} {σ : L2.St} {H : Hp}
/-- a table grows -/
theorem Rel.setTbl {P : Addr} {ps ps2 : Array Value} (r : Rel T X st g σ H) (hP : H P = some (.tbl ps)) (t : TabsG g.tabs.ts g.F (upd H P (.tbl ps2))) (hF : g.F P = none) : Step g H g (upd H P (.tbl ps2)) ∧ Rel T X st g σ (upd H P (.tbl ps2)) := by
  have nz : ∀ b, H b ≠ none → upd H P (.tbl ps2) b ≠ none := fun b hb => by
    by_cases z : b = P
    · rw [z, upd_same]; intro y; cases y
    · rw [upd_ne z]; exact hb
  have ne : ∀ b o, H b = some o → (∀ q, o ≠ .tbl q) → b ≠ P := fun b o e n z => by
    rw [z, hP] at e
    exact n ps (Option.some.inj e).symm
  refine ⟨⟨.refl g, rfl, rfl, rfl, fun _ _ h => .inl h, fun _ h => .inl h, fun b o e _ _ n => by rw [upd_ne (ne b o e n)]; exact e, nz⟩, ⟨r.tb, r.K, r.mg, r.lm, ⟨fun b o e => ?_, r.wd.nof, r.wd.nd, r.wd.len, fun n a kvs q1 q2 => ?_, fun b hb => nz b (r.wd.dom b hb), t⟩, r.len, fun j b ej => (r.bd j b ej).step (.refl g) fun hj => ?_, r.inj, fun p hp => ?_⟩⟩
  · rw [upd_ne fun z => by rw [z, hF] at e; cases e]
    exact r.wd.sub b o e
  · obtain ⟨k, e1, e2⟩ := r.wd.cel n a kvs q1 q2
    exact ⟨k, by rw [upd_ne (ne _ _ e1 fun _ z => nomatch z)]; exact e1, e2⟩
  · obtain ⟨us, q1, q2, q3, q4⟩ := r.owns (own_one ej hj)
    exact ⟨rfl, by rw [upd_ne (ne _ _ q1 fun _ z => nomatch z)], q2, q3, q4⟩
  · obtain ⟨a, b, c⟩ := r.lam p hp
    exact ⟨a, b, by rw [upd_ne (ne _ _ c fun _ z => nomatch z)]; exact c⟩
/-- a new object of ours that stays as it is -/
theorem Rel.newX {p : Addr} {o : HO} (r : Rel T X st g σ H) (n : H p = none) (ht : ∀ ps, o ≠ .tbl ps) : Step g H (g.put p o) (upd H p o) ∧ Rel T X st (g.put p o) σ (upd H p o) := by
  obtain ⟨a, b⟩ := r.new0 (o := o) n
  obtain ⟨c, d⟩ := b.freeze (p := p) (o := o) upd_same (r.nF n) (r.nB n) (r.nM n) (r.nO n) ht
  exact ⟨a.trans c, d⟩
/-- a lambda is made -/
theorem lam_mk {pins : List (Addr × Obj)} {s : Shared} {P c : Addr} {x : Str} {params : Arguments} {body : Expr} {scope : Scope} {pos : Pos} {r : LmR} (I : Inv X pins σ H s) (rel : Rel T X st g σ H) (TB : LamX.TabB X.base X.mg c P) (hcode : X.env.code = .ref c)
    (hx : T.lt x = some r) (hr : r = ⟨X.env.qual ++ "<lambda>", params, body, scope, cloFrom X.env.cells scope.names []⟩) (hm : (P, X.env.qual ++ "<lambda>") ∈ T.ts) (hu : ∀ p ∈ T.ts, p.1 = P → p.2 = X.env.qual ++ "<lambda>") (hdef : defaultsOf params X.env = ([], [])) (hfree : ∀ y ∈ scope.names, y.2 = .free → ∃ c, X.env.cells.lookup y.1 = some c)
    {E : Value → Shared → Prop} {Q : Value → Shared → Prop} (h : ∀ (f : Addr) (g1 : GS) (H1 : Hp) (s1 : Shared), Inv X pins σ H1 s1 → Step g H g1 H1 → Rel T X st g1 σ H1 → Rp g1 (.lam x) (.ref f) → Q (.ref f) s1) :
    wpAny (model X.prog X.w) X.A (eval (.Lambda params body scope pos) X.env) Q E s := by
  obtain ⟨hPF, ps, hP, ht, ha⟩ := rel.wd.tabs _ (by rw [rel.tb]; exact hm)
  have hPF : g.F P = none := hPF
  have hP : H P = some (.tbl ps) := hP
  refine PySem.W.kla_eval hdef ?_
  have bP : s.heap.BuiltinsAt X.mg P := TB.bm.keeps I.bk
  have gP : s.heap.get? P = some { cls := .none, data := .fields ps } := I.hok P _ hP
  -- the function object behind its code
  have fin : ∀ (h2 : Heap) (tk : Nat) (c2 : Addr) (ct : Value) (g1 : GS) (H1 : Hp), Inv X pins σ H1 { s with heap := h2, toks := tk } → Step g H g1 H1 → Rel T X st g1 σ H1 → g1.F c2 = some (LamX.CodeO c2 (X.env.qual ++ "<lambda>")) →
      Q (.ref h2.objs.size) { s with heap := h2.push (PySem.W.kla_obj "<lambda>" (X.env.qual ++ "<lambda>") params body scope (cloFrom X.env.cells scope.names []) ((X.mg "__name__").getD .none) c2 ct), toks := tk } := by
    intro h2 tk c2 ct g1 H1 I1 s1 rel1 hc2
    have nf : H1 h2.objs.size = none := I1.hok.fresh (Nat.le_refl _)
    obtain ⟨s2, rel2⟩ := rel1.newX (o := FnO h2.objs.size r ((X.mg "__name__").getD .none) c2 ct) nf fun ps => ext_ne ps
    refine h _ _ _ _ (I1.laid (t' := tk) (a := h2.objs.size) (h' := h2.push (PySem.W.kla_obj "<lambda>" (X.env.qual ++ "<lambda>") params body scope (cloFrom X.env.cells scope.names []) ((X.mg "__name__").getD .none) c2 ct)) (fun b o e => Heap.get?_push_of_some _ e) (Nat.le_refl _) (fnO_ok (by rw [hr]; exact Heap.get?_push_size _ rfl))) (s1.trans s2) rel2 (.lam (r := r) (c := c2) (pm := (X.mg "__name__").getD .none) (ct := ct) (by rw [rel2.tb]; exact hx) ?_ ?_)
    · show upd g1.F h2.objs.size _ h2.objs.size = _
      rw [upd_same]
    · have eq : r.q = X.env.qual ++ "<lambda>" := by rw [hr]
      rw [eq]
      exact s2.gr.F _ _ hc2
  cases hc : codeAmong pos ps.toList with
  | none =>
    refine PySem.W.kla_makeFunction (mg := X.mg) (c := c) (P := P) (ps := ps) (closure_ok hfree) I.ok.glob (I.mod.glob.keeps I.bk) hcode (TB.code.keeps I.bk) gP ht hc TB.gP bP fun c2 ct h2 tk hx2 hge hlt hrec htb => ?_
    obtain ⟨c3, oc, vs, t, e2, hoc, hd, hv⟩ := hrec
    cases e2
    have nC : H c2 = none := I.hok.fresh hge
    have nPc : P ≠ c2 := ne_of_none hP nC
    have I1 := LamX.inv_table (t' := tk) (more := #[rawInt pos.line, rawInt pos.col, .ref c2]) (h' := h2) I hP hx2 htb hge ⟨oc, vs, t, hoc, hd, hv⟩
    obtain ⟨s1, rel1⟩ := rel.newX (o := LamX.CodeO c2 (X.env.qual ++ "<lambda>")) nC fun ps => LamX.codeO_ne ps
    have eL : (ps ++ #[rawInt pos.line, rawInt pos.col, .ref c2]).toList = ps.toList ++ [rawInt pos.line, rawInt pos.col, .ref c2] := by simp
    have fP : (g.put c2 (LamX.CodeO c2 (X.env.qual ++ "<lambda>"))).F P = none := by
      show upd g.F c2 _ P = none
      rw [upd_ne nPc]
      exact hPF
    have fc : (g.put c2 (LamX.CodeO c2 (X.env.qual ++ "<lambda>"))).F c2 = some (LamX.CodeO c2 (X.env.qual ++ "<lambda>")) := by
      show upd g.F c2 _ c2 = _
      rw [upd_same]
    obtain ⟨s2, rel2⟩ := rel1.setTbl (P := P) (ps := ps) (ps2 := ps ++ #[rawInt pos.line, rawInt pos.col, .ref c2]) (by rw [upd_ne nPc]; exact hP) (fun p hp => by
      obtain ⟨q0, ps', q1, q2, q3⟩ := rel1.wd.tabs p hp
      by_cases hb : p.1 = P
      · have hq : p.2 = X.env.qual ++ "<lambda>" := hu p (by rw [← rel1.tb]; exact hp) hb
        rw [hb] at q0 q1 ⊢
        rw [upd_ne nPc, hP] at q1
        cases q1
        refine ⟨q0, _, upd_same, by rw [eL]; exact PySem.TriplesOk_snoc _ _ _ _ ht, fun p2 cv hcv => ?_⟩
        rw [eL] at hcv
        rcases LamX.among_app _ ht hcv with z | z
        · obtain ⟨c0, e1, e2⟩ := q3 p2 cv z
          exact ⟨c0, e1, e2⟩
        · exact ⟨c2, z, by rw [hq]; exact fc⟩
      · exact ⟨q0, ps', by rw [upd_ne hb]; exact q1, q2, q3⟩) fP
    have eH : upd (upd H P (.tbl (ps ++ #[rawInt pos.line, rawInt pos.col, .ref c2]))) c2 (LamX.CodeO c2 (X.env.qual ++ "<lambda>")) = upd (upd H c2 (LamX.CodeO c2 (X.env.qual ++ "<lambda>"))) P (.tbl (ps ++ #[rawInt pos.line, rawInt pos.col, .ref c2])) := by
      funext b
      by_cases h1 : b = P
      · rw [h1, upd_ne nPc, upd_same, upd_same]
      · by_cases h2 : b = c2
        · rw [h2, upd_same, upd_ne (Ne.symm nPc), upd_same]
        · rw [upd_ne h2, upd_ne h1, upd_ne h1, upd_ne h2]
    rw [eH] at I1
    exact fin h2 tk c2 ct _ _ I1 (s1.trans s2) rel2 fc
  | some cv =>
    obtain ⟨c2, e, hco⟩ := ha pos cv hc
    subst e
    refine PySem.W.kla_makeFunctionHit (mg := X.mg) (c := c) (P := P) (ps := ps) (closure_ok hfree) I.ok.glob (I.mod.glob.keeps I.bk) hcode (TB.code.keeps I.bk) gP ht hc bP fun ct h2 tk hx2 hsz => ?_
    exact fin h2 tk c2 ct g H (I.kept hx2) (.refl g H) rel hco
end
section
variable {P : Prg} {k : Nat} {T : Tbs} {X : Cx} {W : WX} {e a b c : Expr} {es : List Expr} {i ia ib ic : I} {is : List I} {pos p p2 p3 p4 p5 : Pos} {x y z : Str}
/-- what the frame that makes lambdas is told of -/
structure LamF (T : Tbs) (X : Cx) (lms : List (Str × (Arguments × Expr × Scope))) : Prop where
  ex : ∃ c Pt, LamX.TabB X.base X.mg c Pt ∧ X.env.code = .ref c ∧ (Pt, X.env.qual ++ "<lambda>") ∈ T.ts ∧ ∀ p ∈ T.ts, p.1 = Pt → p.2 = X.env.qual ++ "<lambda>"
  lt : ∀ x pa bo sc, lms.lookup x = some (pa, bo, sc) → T.lt x = some ⟨X.env.qual ++ "<lambda>", pa, bo, sc, cloFrom X.env.cells sc.names []⟩
  free : ∀ x pa bo sc, lms.lookup x = some (pa, bo, sc) → ∀ y ∈ sc.names, y.2 = .free → ∃ c, X.env.cells.lookup y.1 = some c
theorem se_lam {lms : List (Str × (Arguments × Expr × Scope))} {params : Arguments} {body : Expr} {scope : Scope} (F : LamF T X lms) (hx : lms.lookup x = some (params, body, scope)) (hdef : defaultsOf params X.env = ([], []) := by rfl) : SE P k T X W (.Lambda params body scope pos) (.lam x) :=
  se_mk (t := fun n => tEv T X W (Ev.ok (.val (.lam x)))) (fun n => ⟨fun pins s σ H Q I ⟨st, g, q⟩ => by
    obtain ⟨c, Pt, TB, hcode, hm, hu⟩ := F.ex
    refine lam_mk I q.1 TB hcode (F.lt x _ _ _ hx) rfl hm hu hdef (F.free x _ _ _ hx) fun f g1 H1 s1 I1 st1 rel1 rp => ⟨.ref f, H1, I1, rfl, ?_⟩
    exact RD.ok (T := T) (X := X) (W := W) (a := R.val (.lam x)) q g1 H1 st1 rel1 _ rp⟩) fun n σ H Q st g q => ⟨st, g, q⟩
/-! ### calls from that frame: the captured names' values go along -/
/-- the captured slots -/
def CapF (T : Tbs) (X : Cx) (caps : List Nat) : Prop := ∀ i ∈ caps, ∃ y c, X.N[i]? = some y ∧ X.env.scope.names.lookup y = some .cell ∧ X.env.cells.lookup y = some c ∧ T.ce i = some c ∧ X.fn y = true
theorem capL_ok {caps : List Nat} {st : Sx} {g : GS} {σ : L2.St} {H : Hp} {pins : List (Addr × Obj)} {s : Shared} (C : CapF T X caps) (I : Inv X pins σ H s) (rel : Rel T X st g σ H) : LmOk (baseAt X H s) g (capL caps st.env) := fun i d e => by
  unfold capL at e
  rw [List.getElem?_map] at e
  have hi : i < st.env.length := by
    by_cases hi : i < st.env.length
    · exact hi
    · rw [List.getElem?_eq_none (by simpa using hi)] at e
      cases e
  rw [List.getElem?_range hi] at e
  have e : (if caps.contains i = true then (match st.env[i]? with
    | some (.val d) => some d
    | _ => none) else none) = some d := Option.some.inj e
  split at e
  · rename_i hc
    have hc : i ∈ caps := by simpa using hc
    split at e
    · rename_i d2 hb
      cases e
      obtain ⟨v, e1, rv⟩ := rel.bd i _ hb
      obtain ⟨y, c, h1, h2, h3, h4, h5⟩ := C i hc
      obtain ⟨m, hn, hl⟩ := I.loc
      obtain ⟨u, ru, lk⟩ := hl i y v h1 e1 (.inr (.inl h2))
      rcases lk with ⟨k1, _⟩ | ⟨_, c2, e2, ⟨o, ho, hd⟩⟩
      · have k1 : X.env.scope.names.lookup y = some .local := k1
        rw [h2] at k1
        cases k1
      · rw [h3] at e2
        cases e2
        refine ⟨c, u, v, by rw [rel.tb]; exact h4, ⟨o, baseAt_get ho (I.freeC y c h3) fun hm => ?_, hd⟩, ru, rv⟩
        rcases List.mem_cons.mp (I.stkSub c hm) with z | z
        · exact I.cne y c h3 z
        · have q1 := I.ok.cab y c h5 h3
          obtain ⟨_, o2, q2, _⟩ := I.ok.funs.mem z
          exact absurd (Nat.lt_of_lt_of_le (Heap.lt_size q2) q1) (Nat.lt_irrefl _)
    · cases e
  · cases e
def CalC (P : Prg) (k : Nat) (T : Tbs) (X : Cx) (W : WX) (caps : List Nat) (x : Str) (σ : L2.St) (Q : VK) (vs : List V) (H : Hp) : Prop := ∃ st g ds, RpL g ds vs ∧ RD T X W (callT P k x ds (capL caps st.env)) st g σ H (okE Q)
theorem calc_run {caps : List Nat} {pins : List (Addr × Obj)} {σ : L2.St} {H : Hp} {s : Shared} {Q : VK} {us : List Value} {vs : List V} {df : Df} {f : Addr} (o : XO P k T X W) (C : CapF T X caps) (hf : P.defs.lookup x = some df) (hm : X.mg x = some (.ref f)) (I : L2.Inv X pins σ H s) (r : Vals vs us) (h : CalC P k T X W caps x σ Q vs H) : wpAny (model X.prog X.w) X.A (call (.ref f) us) (EP X pins σ Q) X.xe s := by
  obtain ⟨st, g, ds, rv, h⟩ := h
  obtain ⟨f', fd, ps, hm', hk, hb, hl, F⟩ := (o.fns k (Nat.le_refl k) x df hf _ (baseAt_big I)).ex
  rw [hm] at hm'
  cases hm'
  have sp := call_go hf h rv (capL_ok C I h.1)
  exact run_g o F hb I r (sp.1.trans hl.symm) sp
theorem se_callc {df : Df} {caps : List Nat} (o : XO P k T X W) (C : CapF T X caps) (hf : P.defs.lookup x = some df) (ha : SA P k T X W (e :: es) is) (hg : Gl X x := by rfl) (hdb : (x == ("__debug__" : Str)) = false := by decide)
    (he : starEach (e :: es) X.env = (false, eval e X.env) :: starEach es X.env := by rfl) (hpl : (backTo pos (starEach es X.env)).any (·.1) = false := by rfl) : SE P k T X W (.Call (.Name x p) (e :: es) [] pos) (.callc x is caps) := by
  refine se_mk (t := fun n σ H Q => tAv T X W (eA (ev P (cl P k) n) is) σ H (CalC P k T X W caps x σ Q)) (fun n => ⟨fun pins s σ H Q I h => ?_⟩) fun n σ H Q st g q => ?_
  · obtain ⟨f, hm, hk⟩ := def_at o hf
    refine wpAny_Call_Name_kw (ld_glob I hg hm ?_ hdb)
    refine PySem.W.callWith_K (h₀ := X.base) I.ok.mod.kin hk (thn ((ha n).run pos pins s σ H _ I h) fun us s1 ⟨vs, H1, I1, r, q⟩ => ⟨I1.kIn, ?_⟩) he hpl
    exact calc_run o C hf hm I1 r q
  · have q : RD T X W ((eA (ev P (cl P k) n) is).bind fun ds => callC (cl P k) caps x ds) st g σ H (okE Q) := q
    exact ⟨st, g, q.bind.mono fun ds st1 g1 H1 s1 rel1 h1 vs rvs => ⟨st1, g1, ds, rvs, h1⟩⟩
end
/-! ### called -/
/-- the context of a lambda's body -/
def lmCx (Pr : Program) (w : World) (K : PySem.W.Frag) (mg : Str → Option Value) (base : Heap) (N : List Str) (A : Around) (outer : List Env) (s : Shared) (H : Hp) (E : XK) (r : LmR) (f c : Addr) : Cx where
  prog := Pr
  w := w
  K := K
  mg := mg
  base := base
  A := A.deeper (PySem.W.envX r.q r.scope s.heap.objs.size f (.ref c) r.clos)
  N := N
  s_0 := s
  H_0 := H
  env := PySem.W.envX r.q r.scope s.heap.objs.size f (.ref c) r.clos
  outer := outer
  stack := PySem.W.envX r.q r.scope s.heap.objs.size f (.ref c) r.clos :: outer
  ex := []
  fn := fun _ => false
  calm := true
  pn := []
  xe := fun e s' => wpAny (model Pr w) (A.deeper (PySem.W.envX r.q r.scope s.heap.objs.size f (.ref c) r.clos)) (leaving (PySem.W.envX r.q r.scope s.heap.objs.size f (.ref c) r.clos) e) (fun _ s'' => L2.CX Pr w outer H s E e s'') (fun e' s'' => L2.CX Pr w outer H s E e' s'') s'
/-- a lambda of the program -/
structure LamOk (Pr : Program) (w : World) (K : PySem.W.Frag) (mg : Str → Option Value) (P : Prg) (T : Tbs) (x : Str) (r : LmR) : Prop where
  ex : ∃ (lm : Lm) (N : List Str) (sc : Scope), P.lams.lookup x = some lm ∧ N.length = lm.n ∧ N.Nodup ∧ LamX.LamS sc r.scope ∧ (∀ y ∈ r.scope.names, y.2 = .free → ∃ c, r.clos.lookup y.1 = some c) ∧ (∀ (i : Nat) y c, N[i]? = some y → r.clos.lookup y = some c → T.ce i = some c) ∧
    (∀ y z c, r.clos.lookup y = some c → r.clos.lookup z = some c → y = z) ∧ (∀ y c, r.clos.lookup y = some c → ∃ i ∈ lm.fr, N[i]? = some y) ∧
    (∀ (pm cv ct : Value), bindArgs (PySem.W.kla_fn "<lambda>" r.q r.params r.body r.scope r.clos pm cv ct) ⟨[], []⟩ = pure []) ∧
    ∀ (k : Nat) (base : Heap) (A : Around) (outer : List Env) (s : Shared) (H : Hp) (E : XK) (f c : Addr), XO P k T (lmCx Pr w K mg base N A outer s H E r f c) (fun cls d _ H' => E cls d H') → SE P k T (lmCx Pr w K mg base N A outer s H E r f c) (fun cls d _ H' => E cls d H') r.body lm.body
def LmsOk (Pr : Program) (w : World) (K : PySem.W.Frag) (mg : Str → Option Value) (P : Prg) (T : Tbs) : Prop := ∀ x r, T.lt x = some r → LamOk Pr w K mg P T x r
/-- slots of a lambda's frame -/
theorem lam_slots {base : Heap} {g : GS} {L : List (Option D)} (h : LmOk base g L) : ∃ σ : L2.St, σ.length = L.length ∧ ∀ (i : Nat), (L[i]? = some none → σ[i]? = some none) ∧ ∀ d, L[i]? = some (some d) → ∃ (c : Addr) (u : Value) (v : V), σ[i]? = some (some v) ∧ g.tabs.ce i = some c ∧ base.IsCell c (some u) ∧ RelV v u ∧ Rp g d v := by
  have key : ∀ (l : List (Option D)) (n : Nat), (∀ i d, l[i]? = some (some d) → CellV base g (n + i) d) → ∃ σ : L2.St, σ.length = l.length ∧ ∀ (i : Nat), (l[i]? = some none → σ[i]? = some none) ∧ ∀ d, l[i]? = some (some d) → ∃ (c : Addr) (u : Value) (v : V), σ[i]? = some (some v) ∧ g.tabs.ce (n + i) = some c ∧ base.IsCell c (some u) ∧ RelV v u ∧ Rp g d v := by
    intro l
    induction l with
    | nil => exact fun n _ => ⟨[], rfl, fun i => ⟨fun e => by simp at e, fun d e => by simp at e⟩⟩
    | cons a l ih =>
      intro n hl
      obtain ⟨σ, h1, h2⟩ := ih (n + 1) fun i d e => by
        have z := hl (i + 1) d (by simpa using e)
        rw [show n + (i + 1) = n + 1 + i by omega] at z
        exact z
      cases a with
      | none =>
        refine ⟨none :: σ, by simp [h1], fun i => ?_⟩
        cases i with
        | zero => exact ⟨fun _ => rfl, fun d e => by simp at e⟩
        | succ i =>
          obtain ⟨q1, q2⟩ := h2 i
          refine ⟨fun e => by simpa using q1 (by simpa using e), fun d e => ?_⟩
          obtain ⟨c, u, v, z1, z2, z⟩ := q2 d (by simpa using e)
          exact ⟨c, u, v, by simpa using z1, by rw [show n + (i + 1) = n + 1 + i by omega]; exact z2, z⟩
      | some d0 =>
        obtain ⟨c0, u0, v0, y1, y2, y3, y4⟩ := hl 0 d0 rfl
        refine ⟨some v0 :: σ, by simp [h1], fun i => ?_⟩
        cases i with
        | zero => exact ⟨fun e => by simp at e, fun d e => by
            have e : d0 = d := by simpa using e
            subst e
            exact ⟨c0, u0, v0, rfl, y1, y2, y3, y4⟩⟩
        | succ i =>
          obtain ⟨q1, q2⟩ := h2 i
          refine ⟨fun e => by simpa using q1 (by simpa using e), fun d e => ?_⟩
          obtain ⟨c, u, v, z1, z2, z⟩ := q2 d (by simpa using e)
          exact ⟨c, u, v, by simpa using z1, by rw [show n + (i + 1) = n + 1 + i by omega]; exact z2, z⟩
  obtain ⟨σ, h1, h2⟩ := key L 0 fun i d e => by rw [Nat.zero_add]; exact h i d e
  exact ⟨σ, h1, fun i => by have z := h2 i; rw [Nat.zero_add] at z; exact z⟩
section
variable {P : Prg} {k : Nat} {T : Tbs} {X : Cx} {W : WX} {pos p p1 p2 : Pos} {x y z : Str}
/-- the state at a lambda's start -/
theorem lam_inv {pins : List (Addr × Obj)} {σ σl : L2.St} {H : Hp} {s : Shared} {g : GS} {L : List (Option D)} {r : LmR} {f c : Addr} {lm : Lm} {N : List Str} {sc : Scope} {E : XK} {h1 : Heap} {tk : Nat} (I : Inv X pins σ H s) (hd : X.A.handled = none) (hN : N.length = lm.n) (hL : L.length = lm.n) (LS : LamX.LamS sc r.scope)
    (hfree : ∀ y ∈ r.scope.names, y.2 = .free → ∃ c, r.clos.lookup y.1 = some c) (hce : ∀ (i : Nat) y c, N[i]? = some y → r.clos.lookup y = some c → T.ce i = some c) (hinj : ∀ y z c, r.clos.lookup y = some c → r.clos.lookup z = some c → y = z) (hfr : ∀ y c, r.clos.lookup y = some c → ∃ i ∈ lm.fr, N[i]? = some y)
    (hall : ∀ i ∈ lm.fr, ∃ d, L[i]? = some (some d)) (hT : g.tabs = T) (hlen : σl.length = L.length) (hσ : ∀ (i : Nat), (L[i]? = some none → σl[i]? = some none) ∧ ∀ d, L[i]? = some (some d) → ∃ (c : Addr) (u : Value) (v : V), σl[i]? = some (some v) ∧ g.tabs.ce i = some c ∧ X.base.IsCell c (some u) ∧ RelV v u ∧ Rp g d v)
    (hns : h1.Ns s.heap.objs.size fun y => ([] : List (Str × Value)).reverse.lookup y) (kp : ∀ b o, s.heap.get? b = some o → h1.get? b = some o) :
    Inv (lmCx X.prog X.w X.K X.mg X.base N X.A X.stack s H E r f c) [] σl H { s with heap := h1, toks := tk } := by
  have e0 := I.env0
  have cell : ∀ y c, r.clos.lookup y = some c → ∃ u, X.base.IsCell c (some u) := fun y c hc => by
    obtain ⟨i, hi, hNi⟩ := hfr y c hc
    obtain ⟨d, hd⟩ := hall i hi
    obtain ⟨c2, u, v, _, q2, q3, _⟩ := (hσ i).2 d hd
    rw [hT, hce i y c hNi hc] at q2
    cases q2
    exact ⟨u, q3⟩
  have noA : ∀ b : Addr, b ∉ (lmCx X.prog X.w X.K X.mg X.base N X.A X.stack s H E r f c).ex := fun b z => (nomatch (show b ∈ ([] : List Addr) from z))
  have up : ∀ {c : Addr} {v : Option Value}, X.base.IsCell c v → h1.IsCell c v := fun {c v} ⟨o, ho, hd⟩ => ⟨o, kp _ _ (I.bk _ _ ho), hd⟩
  refine ⟨⟨e0.mod, LS.kind, rfl, rfl, Nat.le_refl _, fun y z c h2 h3 => hinj y z c h2 h3, fun y hy => ?_, fun y c z _ => ?_, fun _ => hd, Around.frames_deeper e0.frames, .inr ⟨rfl, rfl⟩, fun b z => absurd z (noA b), e0.bs, e0.bsz, fun b _ _ => noA b, fun b z => absurd z (noA b), e0.funs, e0.frf⟩,
    rfl, e0.bare, Un.kept kp, ⟨_, hns, fun i y v e1 e2 e3 => ?_⟩, fun y c e => ?_, e0.hok.fresh (Nat.le_refl _), fun y c e => ?_, fun q hq => (nomatch (show q ∈ ([] : List (Addr × Obj)) from hq)), e0.hok.kept kp, ?_⟩
  · have hy : r.scope.names.lookup y = some .cell ∨ r.scope.names.lookup y = some .free := hy
    rcases hy with hy | hy
    · exact absurd rfl (LS.own _ (PySem.mem_of_lookup hy)).2
    · exact hfree _ (PySem.mem_of_lookup hy) rfl
  · have z : false = true := z
    cases z
  · have e3 : Vis r.scope y := e3
    have e1 : N[i]? = some y := e1
    rcases e3 with q | q | q
    · exact absurd rfl (LS.own _ (PySem.mem_of_lookup q)).1
    · exact absurd rfl (LS.own _ (PySem.mem_of_lookup q)).2
    · obtain ⟨c0, hc0⟩ := hfree _ (PySem.mem_of_lookup q) rfl
      have hi : i < L.length := by rw [← hlen]; exact (List.getElem?_eq_some_iff.mp e2).1
      cases hd : L[i]? with
      | none => rw [List.getElem?_eq_none_iff] at hd; omega
      | some od =>
        cases od with
        | none => rw [(hσ i).1 hd] at e2; cases e2
        | some d =>
          obtain ⟨c2, u, v2, q1, q2, q3, q4, _⟩ := (hσ i).2 d hd
          rw [e2] at q1
          cases q1
          rw [hT, hce i y c0 e1 hc0] at q2
          cases q2
          exact ⟨u, q4, .inr ⟨.inr q, c0, hc0, up q3⟩⟩
  · obtain ⟨u, hu⟩ := cell y c e
    exact ⟨_, up hu⟩
  · obtain ⟨u, o, ho, _⟩ := cell y c e
    exact (I.bs c o ho).2
  · show σl.length = N.length
    rw [hlen, hL, hN]
/-- x(), x a name that holds a lambda (or a def without parameters) -/
theorem se_callv0 {j : Nat} (o : XO P k T X W) (ml : LmsOk X.prog X.w X.K X.mg P T) (hN : X.N[j]? = some x := by rfl) (hv : Vis X.env.scope x := by first | exact Or.inl rfl | exact Or.inr (Or.inl rfl) | exact Or.inr (Or.inr rfl)) (hdb : (x == ("__debug__" : Str)) = false := by decide) (hcd : (x == ("__classdict__" : Str)) = false := by decide) : SE P k T X W (.Call (.Name x p) [] [] pos) (.callv0 j) := by
  refine se_mk (t := fun n => tEv T X W ((ev P (cl P k) (n + 1)).e (.callv0 j))) (fun n => ⟨fun pins s σ H Q I h => ?_⟩) fun n σ H Q st g q => ⟨st, g, q⟩
  obtain ⟨st, g, q⟩ := h
  obtain ⟨rel, res, e, kk⟩ := q
  have e : (match st.env[j]? with
    | some (.val (.lam y)) => callS (cl P k) y [] st
    | some (.val (.fn y)) => callS (cl P k) y [] st
    | _ => none) = some res := e
  have go : ∀ y, st.env[j]? = some (.val (.lam y)) ∨ st.env[j]? = some (.val (.fn y)) → callT P k y [] st.L st = some res := fun y hy => by
    rcases hy with hy | hy <;> (rw [hy] at e; exact e)
  -- the value
  have hval : ∃ y d v, (d = D.lam y ∨ d = D.fn y) ∧ st.env[j]? = some (.val d) ∧ σ[j]? = some (some v) ∧ Rp g d v := by
    cases hb : st.env[j]? with
    | none => rw [hb] at e; cases e
    | some b =>
      have bd := rel.bd j b hb
      rw [hb] at e
      cases b with
      | val d =>
        obtain ⟨v, e1, rv⟩ := bd
        cases d with
        | lam y => exact ⟨y, _, v, .inl rfl, rfl, e1, rv⟩
        | fn y => exact ⟨y, _, v, .inr rfl, rfl, e1, rv⟩
        | _ => cases e
      | _ => cases e
  obtain ⟨y, d, v, hd, henv, hσv, rv⟩ := hval
  refine wpAny_Call_Name_kw (thn ((pe_var (pos := p) (i := j) hN hv hdb hcd).run pins s σ H (fun v1 H1 => v1 = v ∧ H1 = H) I ⟨v, hσv, rfl, rfl⟩) fun u s1 ⟨v1, H1, I1, r1, ev, eH⟩ => ?_)
  subst ev eH
  rcases hd with rfl | rfl
  · -- a lambda
    cases rv with
    | @lam _ f c r pm ct hx hF hc =>
    obtain rfl : u = Value.ref f := r1
    have e1 := go y (.inl henv)
    rw [rel.tb] at hx
    obtain ⟨lm, N, sc, hlm, hNl, hNd, LS, hfree, hce, hinj, hfr, hbind, der⟩ := (ml y r hx).ex
    have gf := fnO_at I1.hok (rel.wd.sub _ _ hF)
    obtain ⟨oc, vs, t, hoc, hdc, hvc⟩ := codeO_at I1.hok (rel.wd.sub _ _ hc)
    refine PySem.W.callWith_F0 ⟨_, _, _, _, gf⟩ ?_
    -- the evaluator's run
    cases k with
    | zero => cases e1
    | succ k =>
      unfold callT callN at e1
      have hnd : P.defs.lookup y = none := by
        cases q : P.defs.lookup y with
        | none => rfl
        | some df =>
          obtain ⟨f2, fd, ps, hm2, _⟩ := (o.fns (k + 1) (Nat.le_refl _) y df q X.base (fun _ _ h => h)).ex
          rw [o.nl y lm hlm] at hm2
          cases hm2
      rw [hnd] at e1
      simp only at e1
      rw [hlm] at e1
      simp only at e1
      by_cases hcond : ([] : List D).isEmpty = true ∧ st.L.length = lm.n ∧ hasL st.L lm.fr = true
      · rw [if_pos hcond] at e1
        have hall : ∀ i ∈ lm.fr, ∃ d, st.L[i]? = some (some d) := fun i hi => by
          have z := List.all_eq_true.mp hcond.2.2 i hi
          cases hq : st.L[i]? with
          | none => rw [hq] at z; cases z
          | some od =>
            cases od with
            | none => rw [hq] at z; cases z
            | some d => exact ⟨d, rfl⟩
        cases hm : (ev P (callN P k) P.af).e lm.body ⟨st.L.map bdL, st.S, []⟩ with
        | none => rw [hm] at e1; cases e1
        | some rs =>
          obtain ⟨rr, s'⟩ := rs
          rw [hm] at e1
          cases e1
          obtain ⟨σl, hlen, hσ⟩ := lam_slots rel.lm
          have room := o.room
          -- the frame's run
          have rc : codeAny (model X.prog X.w) X.A (.call (.ref f) ⟨[], []⟩) (CR (L2.CX X.prog X.w) X.stack X.prog X.w H1 s1 Q (fun cls d H2 => W cls d σ H2)) s1 := by
            refine PySem.W.kla_callFunE room.depth gf rfl LS.co LS.gen rfl ⟨c, oc, vs, t, rfl, hoc, hdc, hvc⟩ ?_
            rw [hbind]
            refine wpAny_pure (wpAny_newFunctionEnv (fun y hy => (LS.own y hy).2) (fun y hy => absurd hy (by simp)) (fun h1 hns hsb => ⟨I1.nolimit.fresh _ hsb, ?_⟩) LS.kind)
            show codeAny _ _ (.expr r.body (PySem.W.envX r.q r.scope s1.heap.objs.size f (.ref c) r.clos)) _ _
            have kp : ∀ b o, s1.heap.get? b = some o → h1.get? b = some o := fun b o e => hsb.extBut b o (Nat.ne_of_lt (Heap.lt_size e)) (Heap.get?_push_of_some _ e)
            have J := lam_inv (E := fun cls d H2 => W cls d σ H2) (f := f) (c := c) (tk := s1.toks + ([] : List (Str × Value)).length) I1 room.hd hNl hcond.2.1 LS hfree hce hinj hfr hall rel.tb hlen hσ hns kp
            have oL : XO P k T (lmCx X.prog X.w X.K X.mg X.base N X.A X.stack s1 H1 (fun cls d H2 => W cls d σ H2) r f c) (fun cls d _ H2 => W cls d σ H2) :=
              ⟨hNd, rfl, takes_of (E := fun cls d H2 => W cls d σ H2) rfl rfl rfl rfl, room.deeper _, o.grd, fun j hj => o.fns j (Nat.le_succ_of_le hj), o.fr, o.gl, o.bf, o.ex, o.nl, o.em⟩
            have pe := der k X.base X.A X.stack s1 H1 (fun cls d H2 => W cls d σ H2) f c oL P.af
            refine PySem.W.kla_codeExpr (wpAny_mono (pe.run [] _ σl H1 Q J ?_) (fun v2 s2 hq => ?_) fun e2 s2 hq => hq)
            · -- the evaluator's state
              have own : ∀ i, ¬ Own (st.L.map bdL) i := fun i ⟨xs, h⟩ => by
                rw [List.getElem?_map] at h
                cases hq : st.L[i]? with
                | none => rw [hq] at h; rcases h with h | h <;> cases h
                | some od =>
                  rw [hq] at h
                  cases od with
                  | none => rcases h with h | h <;> cases h
                  | some d => rcases h with h | h <;> cases h
              have rl : Rel T (lmCx X.prog X.w X.K X.mg X.base N X.A X.stack s1 H1 (fun cls d H2 => W cls d σ H2) r f c) ⟨st.L.map bdL, st.S, []⟩ (g.enter H1) σl H1 := by
                refine ⟨rel.tb, rel.K, rel.mg, fun i d e => by simp at e, rel.enter, by simp [hlen], fun i b eb => ?_, fun i j hi => (own i hi).elim, fun p hp => (nomatch (show p ∈ ([] : List Lt) from hp))⟩
                have eb : (st.L.map bdL)[i]? = some b := eb
                rw [List.getElem?_map] at eb
                cases hq : st.L[i]? with
                | none => rw [hq] at eb; cases eb
                | some od =>
                  rw [hq] at eb
                  cases eb
                  cases od with
                  | none => trivial
                  | some d =>
                    obtain ⟨_, u2, v2, q1, _, _, _, q4⟩ := (hσ i).2 d hq
                    exact ⟨v2, q1, q4.mono gr_enter⟩
              refine ⟨_, _, rl, (rr, s'), hm, ?_⟩
              have resE : ∀ {x : R} {g2 : GS} {H2 : Hp} {v : V} {env : List Bd}, RpR g2 H2 env x v → RpF g2 H2 x v := fun {x g2 H2 v env} rv => by
                cases x with
                | val d => exact rv
                | fresh xs =>
                  obtain ⟨a, us, e1, q1, q2, q3, q4, q5, _⟩ := rv
                  exact ⟨a, us, e1, q1, q2, q3, q4, q5, fun i ⟨zs, hz⟩ => by rcases hz with hz | hz <;> cases hz⟩
              cases rr with
              | ok x2 =>
                intro g2 H2 st2 rel2 v rv
                obtain ⟨q1, q2, _⟩ := rel.leave st2 rel2.wd
                exact kk _ H2 q1 q2 v (show RpR (g.leave g2) H2 st.env x2 v from RpR.leave rel st2 (resE rv))
              | error x2 =>
                intro g2 H2 cls d st2 rel2 rx
                obtain ⟨q1, q2, _⟩ := rel.leave st2 rel2.wd
                exact kk _ H2 cls d q1 q2 rx.leave
            · obtain ⟨w2, H2, J2, rw2, q2⟩ := hq
              exact ⟨w2, H2, J2.os, J2.bare, J2.base, J2.hok, rw2, q2⟩
          refine wpAny_call (codeAny_mono rc fun r2 s2 hq => ?_)
          cases r2 with
          | error ex => exact passAt o.tk σ pins H1 s1 ex s2 I1 hq
          | ok fl =>
            cases fl with
            | ret u => exact I1.after hq
            | next => exact False.elim hq
            | brk => exact False.elim hq
            | cont => exact False.elim hq
      · rw [if_neg hcond] at e1
        cases e1
  · -- a def
    cases rv with
    | @fn _ f hm hk =>
    obtain rfl : u = Value.ref f := r1
    have e1 := go y (.inr henv)
    rw [rel.K] at hk
    rw [rel.mg] at hm
    refine PySem.W.callWith_K0 I1.kIn hk ?_
    cases hy : P.defs.lookup y with
    | some df => exact cal_run o hy hm I1 .nil ⟨st, g, [], .nil, rel, res, e1, kk⟩
    | none =>
      exfalso
      cases hy2 : P.lams.lookup y with
      | some lm => rw [o.nl y lm hy2] at hm; cases hm
      | none =>
        unfold callT at e1
        have z : callN P k y [] st.L st.S = none := by
          cases k with
          | zero => rfl
          | succ k => unfold callN; rw [hy]; simp only; rw [hy2]
        rw [z] at e1
        cases e1
end
end Rf
/-! Rf16: the end of a law -/
namespace Rf
open PySem PySem.Spec L2 PyProof.Rows
/-- a table of code objects: its code, its place, the name of what it lists -/
structure Tb where
  c : Addr
  p : Addr
  q : Str
def tsOf (cs : List Tb) : List (Addr × Str) := cs.map fun t => (t.p, t.q)
abbrev Lms := List (Str × (Arguments × Expr × Scope))
/-- what stays as it is, for the law's frame -/
def tbsOf (cs : List Tb) (N : List Str) (lms : Lms) (env : Env) : Tbs where
  ts := tsOf cs
  lt := fun x => (lms.lookup x).map fun q => ⟨env.qual ++ "<lambda>", q.1, q.2.1, q.2.2, cloFrom env.cells q.2.2.names []⟩
  ce := fun i => (N[i]?).bind fun y => if env.scope.names.lookup y = some .cell then env.cells.lookup y else none
/-- a lambda of the law's def -/
structure LamSt (Pr : Program) (w : World) (K : PySem.W.Frag) (mg : Str → Option Value) (P : Prg) (N : List Str) (sc : Scope) (x : Str) (pa : Arguments) (bo : Expr) (ls : Scope) : Prop where
  ex : ∃ lm : Lm, P.lams.lookup x = some lm ∧ N.length = lm.n ∧ LamX.lamSB sc ls = true ∧ (∀ y ∈ ls.names, y.2 = .free → ∃ i ∈ lm.fr, N[i]? = some y.1) ∧
    (∀ (q : Str) (cl : List (Str × Addr)) (pm cv ct : Value), bindArgs (PySem.W.kla_fn "<lambda>" q pa bo ls cl pm cv ct) ⟨[], []⟩ = pure []) ∧
    ∀ (k : Nat) (T : Tbs) (base : Heap) (A : Around) (outer : List Env) (s : Shared) (H : Hp) (E : XK) (f c : Addr) (q : Str) (cl : List (Str × Addr)), XO P k T (lmCx Pr w K mg base N A outer s H E ⟨q, pa, bo, ls, cl⟩ f c) (fun cls d _ H' => E cls d H') → SE P k T (lmCx Pr w K mg base N A outer s H E ⟨q, pa, bo, ls, cl⟩ f c) (fun cls d _ H' => E cls d H') bo lm.body
theorem cells_of {sc : Scope} {L f : Addr} {cd : Value} {q : Str} {y : Str} (h : sc.names.lookup y = some .cell) : ∃ c, (envOfC q sc L f cd).cells.lookup y = some c := by
  have z := PySem.W.cellsFrom_some (x := y) sc.names (L + 1) [] (.inl h)
  exact Option.isSome_iff_exists.mp z
theorem cells_inj1 {names : List (Str × NameKind)} {h : Heap} {L : Nat} (hL : h.objs.size = L) {y z : Str} {c : Addr} (h1 : (cellsFrom (L + 1) names []).lookup y = some c) (h2 : (cellsFrom (L + 1) names []).lookup z = some c) : y = z := by
  subst hL
  rw [← Heap.size_push h { cls := .type "dict", data := .dict #[] }] at h1 h2
  exact cells_inj (fun p hp => absurd hp (by simp)) (fun x y c a b => absurd a (by simp)) (PySem.mem_of_lookup h1) (PySem.mem_of_lookup h2)
theorem lms_ok {Pr : Program} {w : World} {K : PySem.W.Frag} {mg : Str → Option Value} {P : Prg} {N ps : List Str} {sc : Scope} {cs : List Tb} {lms : Lms} {q : Str} {f : Addr} {cd : Value} {h : Heap} (S : FnScope N ps sc) (hl : ∀ x pa bo ls, lms.lookup x = some (pa, bo, ls) → LamSt Pr w K mg P N sc x pa bo ls) :
    LmsOk Pr w K mg P (tbsOf cs N lms (envOfC q sc h.objs.size f cd)) := fun x r hx => by
  obtain ⟨⟨pa, bo, ls⟩, hk, rfl⟩ := Option.map_eq_some_iff.mp (show (lms.lookup x).map _ = some r from hx)
  obtain ⟨lm, h1, h2, h3, h4, h5, der⟩ := (hl x pa bo ls hk).ex
  have LS := LamX.lamS_by h3
  have cl : ∀ {y c}, (cloFrom (envOfC q sc h.objs.size f cd).cells ls.names []).lookup y = some c → (y, NameKind.free) ∈ ls.names ∧ sc.names.lookup y = some .cell ∧ (envOfC q sc h.objs.size f cd).cells.lookup y = some c := fun {y c} e => by
    rcases cloFrom_mem (PySem.mem_of_lookup e) with hm | ⟨q1, q2⟩
    · cases hm
    · have hc : sc.names.lookup y = some .cell := by
        rcases LS.free _ q1 rfl with z | z
        · exact z
        · exact absurd rfl (S.nofree _ (PySem.mem_of_lookup z))
      obtain ⟨c2, e2⟩ := cells_of (L := h.objs.size) (f := f) (cd := cd) (q := q) hc
      rw [e2] at q2
      exact ⟨q1, hc, by rw [e2, q2]; rfl⟩
  refine ⟨lm, N, sc, h1, h2, S.nd, LS, fun y hy e => ?_, fun i y c hN hc => ?_, fun y z c e1 e2 => cells_inj1 rfl (cl e1).2.2 (cl e2).2.2, fun y c hc => h4 _ (cl hc).1 rfl, h5 _ _, fun k base A outer s H E f2 c2 o => der k _ base A outer s H E f2 c2 _ _ o⟩
  · have hy2 : (y.1, NameKind.free) ∈ ls.names := by rw [← e]; exact hy
    exact mem_lookup (cloFrom_has (cells := (envOfC q sc h.objs.size f cd).cells) (acc := []) hy2)
  · obtain ⟨q1, q2, q3⟩ := cl hc
    show (N[i]?).bind _ = _
    rw [hN]
    show (if (envOfC q sc h.objs.size f cd).scope.names.lookup y = some .cell then _ else _) = _
    exact (if_pos q2).trans q3
/-- what is tracked ahead of the law: the tables, the script (unless it is written) -/
noncomputable def H0 (K : PySem.W.Frag) (cs : List Tb) (a : Addr) (ob : Obj) (vs : List V) : Hp := fun b =>
  open Classical in if b ∈ cs.map (·.p) then some (.tbl #[]) else if b = a ∧ K.lookup a = none then some (.frz ob (.lst vs)) else none
noncomputable def F0 (K : PySem.W.Frag) (a : Addr) (ob : Obj) (vs : List V) : Hp := fun b =>
  open Classical in if b = a ∧ K.lookup a = none then some (.frz ob (.lst vs)) else none
theorem rpl_ints {g : GS} : ∀ ns : List Int, RpL g (ns.map D.int) (ns.map V.int)
  | [] => .nil
  | n :: ns => .cons (.int n) (rpl_ints ns)
section
variable {P : Program} {w : World} {K : PySem.W.Frag} {mg mb : Str → Option Value} {Pg : Prg} {k : Nat} {fa a : Addr} {cs : List Tb} {x : Str} {s1 : Shared} {vs : List Value} {ns : List Int} {params : Arguments} {body : List Stmt} {scope : Scope} {fd : FuncData} {N : List Str} {lms : Lms} {caps : List Nat} {js : List J}
theorem law_g (KX : K.In s1.heap) (G1 : s1.heap.Ns mainGlobals mg) (G2 : s1.heap.Ns builtinsNs mb) (G3 : ∀ y : Str, y ≠ "__name__" → mb y = bootBuiltins y) (G4 : s1.heap.NoLimit) (hgen : s1.gens = #[])
    (hT : ∀ t ∈ cs, s1.heap.get? t.p = some { cls := .none, data := .fields #[] }) (nT : ∀ t ∈ cs, K.lookup t.p = none) (C : ∀ t ∈ cs, PySem.W.CodeHd s1.heap t.c t.p)
    (hbm : ∃ (m : Addr) (o : Obj), mg "__builtins__" = some (.ref m) ∧ m ≠ builtinsNs ∧ s1.heap.get? m = some o ∧ o.cls = .type "module" ∧ o.dict = some builtinsNs ∧ o.data = .plain)
    (ha : s1.heap.get? a = some { cls := .type "list", data := .seq vs.toArray }) (hi : IntsAre vs ns) (hl : ns.length ≤ sizeLine) (hr : Room (k + 3) callerA)
    (FD : FunD K "law" "law" params body scope [] [] fa fd) (S : FnScope N [x] scope) (hbd : ∀ (kV doc pm : Value) (an : Option Addr) (cdv ct : Value) (us : List Value), us.length = 1 → bindArgs (PySem.W.fnOf "law" "law" params body scope .none kV doc pm an cdv ct) ⟨us, []⟩ = pure ([x].zip us))
    (hq : ∀ t ∈ cs, t.q = "law.<locals>." ++ "<lambda>") (hcs : lms = [] ∨ ∃ t ∈ cs, fd.code = .ref t.c) (hcaps : ∀ i ∈ caps, ∃ y, N[i]? = some y ∧ scope.names.lookup y = some .cell)
    (hls : ∀ y pa bo ls, lms.lookup y = some (pa, bo, ls) → LamSt P w K mg Pg N scope y pa bo ls)
    (F : ∀ base : Heap, K.In base → base.Ns mainGlobals mg → ModOk P w K mg base Pg ∧ ∀ T, LmsOk P w K mg Pg T → ∀ j y d, Pg.defs.lookup y = some d → ∀ B, Big base B → DefK P w K mg B Pg j T y d.ps.length)
    (der : ∀ (T : Tbs) (base : Heap) (cd : Value) (A : Around) (outer : List Env) (s : Shared) (H : Hp) (E : XK), XS Pg k T (cxG P w K mg base N "law" scope fa cd A outer s H E) (fun cls d _ H' => E cls d H') → (lms = [] ∨ LamF T (cxG P w K mg base N "law" scope fa cd A outer s H E) lms) → CapF T (cxG P w K mg base N "law" scope fa cd A outer s H E) caps → LmsOk P w K mg Pg T →
      SSs Pg k T (cxG P w K mg base N "law" scope fa cd A outer s H E) (fun cls d _ H' => E cls d H') body js)
    (hlaw : ∃ s', sL (ev Pg (callN Pg k) Pg.af) js ⟨.val (.scr (ns.map .int)) :: List.replicate (N.length - 1) .un, [], []⟩ = some (.ok (.rt (.val (.bl true))), s')) :
    codeAny (model P w) callerA (.call (.ref fa) ⟨[.ref a], []⟩) (fun r s' => r = .ok (.ret (.bool true)) ∧ OldK s1.heap s'.heap ∧ s'.os = s1.os ∧ AllBare s'.gens) s1 := by
  have rvs := vals_ints hi
  have lenV := hi.length
  have inT : ∀ {b : Addr}, b ∈ cs.map (·.p) → ∃ t ∈ cs, t.p = b := fun hb => List.mem_map.mp hb
  have memT : ∀ t ∈ cs, t.p ∈ cs.map (·.p) := fun t ht => List.mem_map.mpr ⟨t, ht, rfl⟩
  have getT : ∀ {b : Addr}, b ∈ cs.map (·.p) → s1.heap.get? b = some { cls := .none, data := .fields #[] } := fun hb => by
    obtain ⟨t, ht, e⟩ := inT hb
    rw [← e]
    exact hT t ht
  have aT : a ∉ cs.map (·.p) := fun z => by
    have q := getT z
    rw [ha] at q
    have z2 : Data.seq vs.toArray _ = Data.fields #[] := congrArg Obj.data (Option.some.inj q)
    cases z2
  let ob : Obj := { cls := .type "list", data := .seq vs.toArray }
  let us : List V := ns.map V.int
  let H := H0 K cs a ob us
  have hHt : ∀ {b : Addr}, b ∈ cs.map (·.p) → H b = some (.tbl #[]) := fun hb => if_pos hb
  have hHn : ∀ {b : Addr}, b ∉ cs.map (·.p) → ¬ (b = a ∧ K.lookup a = none) → H b = none := fun hb hb2 => (if_neg hb).trans (if_neg hb2)
  have hHa : K.lookup a = none → H a = some (.frz ob (.lst us)) := fun z => (if_neg aT).trans (if_pos ⟨rfl, z⟩)
  have split : ∀ {b : Addr} {u : HO}, H b = some u → (b ∈ cs.map (·.p) ∧ u = .tbl #[]) ∨ (b = a ∧ K.lookup a = none ∧ u = .frz ob (.lst us)) := fun {b u} e => by
    by_cases h1 : b ∈ cs.map (·.p)
    · rw [hHt h1] at e
      cases e
      exact .inl ⟨h1, rfl⟩
    · by_cases h2 : b = a ∧ K.lookup a = none
      · rw [h2.1, hHa h2.2] at e
        cases e
        exact .inr ⟨h2.1, h2.2, rfl⟩
      · rw [hHn h1 h2] at e
        cases e
  -- what is not tracked stands in the base
  have free : ∀ {b : Addr} {o : Obj}, s1.heap.get? b = some o → (∀ ws n, o.data ≠ .seq ws n) → o.data ≠ .fields #[] → H b = none := fun {b o} e n1 n2 => by
    cases q : H b with
    | none => rfl
    | some u =>
      rcases split q with ⟨h1, _⟩ | ⟨h1, _⟩
      · rw [getT h1] at e
        cases e
        exact (n2 rfl).elim
      · rw [h1, ha] at e
        cases e
        exact (n1 _ _ rfl).elim
  have nsB : ∀ {b : Addr} {m : Str → Option Value}, s1.heap.Ns b m → (hidT s1.heap H).Ns b m := fun {b m} ⟨o, es, ep, e, d, r⟩ =>
    ⟨o, es, ep, hidT_get e (free e (fun ws n z => by rw [d] at z; cases z) fun z => by rw [d] at z; cases z), d, r⟩
  have kB : K.In (hidT s1.heap H) := fun b o e => hidT_get (KX b o e) (by
    cases q : H b with
    | none => rfl
    | some u =>
      rcases split q with ⟨h1, _⟩ | ⟨h1, h2, _⟩
      · obtain ⟨t, ht, et⟩ := inT h1
        rw [← et, nT t ht] at e
        cases e
      · rw [h1, h2] at e
        cases e)
  have M : L2.Mod K mg (hidT s1.heap H) := ⟨kB, nsB G1, ⟨mb, nsB G2, G3⟩, let ⟨mc, q1, q2⟩ := G4; ⟨mc, nsB q1, q2⟩⟩
  have tb : ∀ t ∈ cs, LamX.TabB (hidT s1.heap H) mg t.c t.p := fun t ht => by
    have hp := hT t ht
    refine ⟨?_, ?_, fun z => ?_⟩
    · obtain ⟨o, ws, f1, f2, f3, f4, f5, f6, f7, e1, r1, r2, r3, r⟩ := C t ht
      refine ⟨o, ws, f1, f2, f3, f4, f5, f6, f7, hidT_get e1 (free e1 (fun ws n z => ?_) fun z => ?_), r1, r2, r3, r⟩
      · rw [r2] at z
        cases z
      · rw [r2] at z
        cases z
        simp at r3
    · obtain ⟨m, o, b1, b2, b3, b4, b5, b6⟩ := hbm
      have d1 : m ≠ mainGlobals := fun q => by
        obtain ⟨o2, es, ep, e, hd, _⟩ := G1
        rw [q, e] at b3
        cases b3
        rw [hd] at b6
        cases b6
      have d2 : m ≠ t.p := fun q => by
        rw [q, hp] at b3
        cases b3
        cases b6
      exact ⟨m, o, b1, b2, d1, d2, hidT_get b3 (free b3 (fun ws n z => by rw [b6] at z; cases z) fun z => by rw [b6] at z; cases z), b4, b5, b6⟩
    · obtain ⟨o, es, ep, e, hd, _⟩ := G1
      rw [z, hp] at e
      cases e
      cases hd
  have hok : HOk P w H s1.heap := fun b u e => by
    rcases split e with ⟨h1, rfl⟩ | ⟨h1, _, rfl⟩
    · exact getT h1
    · rw [h1]
      exact ⟨ha, by show (ns.map V.int).length ≤ sizeLine; rw [List.length_map]; exact hl, vs, _, rvs, ha⟩
  have e0 : Env0 P w K mg (hidT s1.heap H) callerA [] s1 H := ⟨rfl, M, fun b o e => of_hidT e, Nat.le_of_eq (hidT_size _ _), trivial, fun b hb => (nomatch hb), hok, .of_eq hgen⟩
  obtain ⟨M2, FD2⟩ := F _ kB (nsB G1)
  have hbindN : L2.Binds K fd [x] [] := FD.bindsN hbd
  obtain ⟨oc, od, dV, kV, doc, pm, an, cdv, ct, osl, rfl, lk, hcd, _, _⟩ := FD.ex
  let env : Env := envOfC "law" scope s1.heap.objs.size fa cdv
  let T : Tbs := tbsOf cs N lms env
  have ml : LmsOk P w K mg Pg T := lms_ok S hls
  -- the promise's premise
  let g : GS := ⟨K, mg, F0 K a ob us, [], fun _ => 0, H, [], T⟩
  have hF : ∀ {b : Addr} {u : HO}, g.F b = some u → b = a ∧ K.lookup a = none ∧ u = .frz ob (.lst us) := fun {b u} e => by
    have e : F0 K a ob us b = some u := e
    unfold F0 at e
    by_cases h2 : b = a ∧ K.lookup a = none
    · rw [if_pos h2] at e
      cases e
      exact ⟨h2.1, h2.2, rfl⟩
    · rw [if_neg h2] at e
      cases e
  have rp : Rp g (.scr (ns.map .int)) (.ref a) := by
    refine .scr (vs := us) ?_ (rpl_ints ns)
    cases hk : K.lookup a with
    | none => exact .inl (.inr ⟨ob, show F0 K a ob us a = _ from if_pos ⟨rfl, hk⟩⟩)
    | some o =>
      have e := KX a o hk
      rw [ha] at e
      cases e
      exact .inr ⟨_, vs.toArray, _, hk, rfl, rfl, rfl, by rw [List.size_toArray, lenV]; exact hl, by simpa using rvs⟩
  have wd : Wd g H [] := by
    refine ⟨fun b u e => ?_, fun b hb => (nomatch hb), List.nodup_nil, rfl, fun n b kvs h1 _ => ?_, fun b h => h, fun p hp => ?_⟩
    · obtain ⟨h1, h2, rfl⟩ := hF e
      rw [h1]
      exact hHa h2
    · have h1 : ([] : List Addr)[n]? = some b := h1
      simp at h1
    · obtain ⟨t, ht, rfl⟩ := List.mem_map.mp (show p ∈ cs.map fun t => (t.p, t.q) from hp)
      refine ⟨?_, #[], hHt (memT t ht), trivial, fun pos cv z => by cases z⟩
      cases q : g.F t.p with
      | none => rfl
      | some u =>
        obtain ⟨z, _⟩ := hF q
        exact (aT (by rw [← z]; exact memT t ht)).elim
  have bs : BindsTo s1 (PySem.W.fnOf "law" "law" params body scope dV kV doc pm an cdv ct) ⟨[.ref a], []⟩ ([x].zip [.ref a]) := by
    have z := hbindN s1 [.ref a] KX rfl
    rw [List.append_nil] at z
    exact z
  have lam : lms = [] ∨ LamF T (cxG P w K mg (hidT s1.heap H) N "law" scope fa cdv callerA [] s1 H fun _ _ _ => False) lms := by
    rcases hcs with e | ⟨t, ht, et⟩
    · exact .inl e
    · refine .inr ⟨⟨t.c, t.p, tb t ht, et, ?_, fun p hp hpe => ?_⟩, fun y pa bo ls hy => ?_, fun y pa bo ls hy z hz e => ?_⟩
      · have hq1 := hq t ht
        exact List.mem_map.mpr ⟨t, ht, by rw [hq1]; rfl⟩
      · obtain ⟨t2, ht2, rfl⟩ := List.mem_map.mp hp
        exact hq t2 ht2
      · show ((lms.lookup y).map _) = _
        rw [hy]
        rfl
      · obtain ⟨lm, _, _, h3, _⟩ := (hls y pa bo ls hy).ex
        have LS := LamX.lamS_by h3
        have hc : scope.names.lookup z.1 = some .cell := by
          rcases LS.free _ (show (z.1, NameKind.free) ∈ ls.names by rw [← e]; exact hz) rfl with q | q
          · exact q
          · exact absurd rfl (S.nofree _ (PySem.mem_of_lookup q))
        exact cells_of hc
  have cap : CapF T (cxG P w K mg (hidT s1.heap H) N "law" scope fa cdv callerA [] s1 H fun _ _ _ => False) caps := fun i hi => by
    obtain ⟨y, h1, h2⟩ := hcaps i hi
    obtain ⟨c, h3⟩ := cells_of (L := s1.heap.objs.size) (f := fa) (cd := cdv) (q := "law") h2
    refine ⟨y, c, h1, h2, h3, ?_, ?_⟩
    · show (N[i]?).bind _ = _
      rw [h1]
      show (if scope.names.lookup y = some .cell then _ else _) = _
      exact (if_pos h2).trans h3
    · rfl
  refine codeAny_mono (LamX.run_ofS (k := k + 2) (CX := L2.CX P w) (N := N) (ps := [x]) (us := [.ref a]) (vs := [.ref a]) (Q := fun v _ => v = .bl true) (E := fun _ _ _ => False) lk hcd S hr e0 bs (.cons rfl .nil) rfl fun hr2 => ⟨_, der T _ cdv callerA [] s1 H _ (xs_of S hr2 rfl M2 fun j _ => FD2 T ml j) lam cap ml Pg.af, ?_⟩) fun r s' h => ?_
  · obtain ⟨s', hs⟩ := hlaw
    have hN : 1 ≤ N.length := by
      have z := S.pre
      cases N with
      | nil => cases z
      | cons y r => simp
    have rs := rel_start (T := T) (X := cxG P w K mg (hidT s1.heap H) N "law" scope fa cdv callerA [] s1 H fun _ _ _ => False) (L := []) (n := N.length) (N := N) rfl rfl rfl (fun i d e => by simp at e) rfl wd (.cons rp .nil) rfl hN
    refine ⟨⟨.val (.scr (ns.map .int)) :: List.replicate (N.length - 1) .un, [], []⟩, g, rs, _, hs, fun g' σ' H' _ _ v rv => ?_⟩
    cases rv
    rfl
  cases r with
  | error e =>
    obtain ⟨_, _, _, _, _, _, _, _, _, _, _, _, z⟩ := h
    exact z.elim
  | ok fl =>
    cases fl with
    | next => exact False.elim h
    | brk => exact False.elim h
    | cont => exact False.elim h
    | ret u =>
      obtain ⟨v, H', os, bare, un, hok', rv, q⟩ := h
      have q : v = .bl true := q
      subst q
      obtain rfl : u = Value.bool true := rv
      have stay : ∀ b o, b ∉ cs.map (·.p) → s1.heap.get? b = some o → s'.heap.get? b = some o := fun b o nb e => by
        by_cases h2 : b = a ∧ K.lookup a = none
        · obtain ⟨rfl, h3⟩ := h2
          obtain ⟨e1, _⟩ := hok _ _ (hHa h3)
          obtain ⟨e2, _⟩ := hok' _ _ (un.frzs _ _ _ (hHa h3))
          rw [e] at e1
          cases e1
          exact e2
        · exact un.keep b o e (hHn nb h2) (fun z => (nomatch (show b ∈ ([] : List Addr) from z))) (fun z => (nomatch z))
      have grew : ∀ t ∈ cs, ∃ more : Array Value, s'.heap.get? t.p = some { cls := .none, data := .fields more } := fun t ht => by
        obtain ⟨more, z⟩ := un.tbls t.p #[] (hHt (memT t ht))
        exact ⟨_, hok' _ _ z⟩
      refine ⟨rfl, ⟨fun b o e => ?_, fun b o e => ?_⟩, os, bare⟩
      · by_cases hb : b ∈ cs.map (·.p)
        · obtain ⟨t, ht, rfl⟩ := inT hb
          obtain ⟨more, hm⟩ := grew t ht
          rw [hT t ht] at e
          cases e
          exact .inr (.inl ⟨((C t ht).tab (hT t ht)).isCodeTable, rfl, #[], more, rfl, by rw [Array.empty_append]; exact hm⟩)
        · exact .inl (stay b o hb e)
      · by_cases hb : b ∈ cs.map (·.p)
        · obtain ⟨t, ht, rfl⟩ := inT hb
          obtain ⟨more, hm⟩ := grew t ht
          exact ⟨_, hm⟩
        · exact ⟨o, stay b o hb e⟩
end
/-- what a program's head gives for a law -/
structure HeadG (l : PySem.W.OpenLaw) (w : World) (mg : Str → Option Value) (h : Heap) (fa : Addr) (Pg : Prg) (x : Str) (params : Arguments) (body : List Stmt) (scope : Scope) (N : List Str) (lms : Lms) (k : Nat) (caps : List Nat) (js : List J) : Prop where
  ex : ∃ (K : PySem.W.Frag) (cs : List Tb) (fd : FuncData), K.In h ∧ (∀ t ∈ cs, h.get? t.p = some { cls := .none, data := .fields #[] }) ∧ (∀ t ∈ cs, K.lookup t.p = none) ∧ (∀ t ∈ cs, PySem.W.CodeHd h t.c t.p) ∧
    FunD K "law" "law" params body scope [] [] fa fd ∧ (∀ t ∈ cs, t.q = "law.<locals>." ++ "<lambda>") ∧ (lms = [] ∨ ∃ t ∈ cs, fd.code = .ref t.c) ∧
    (∀ y pa bo ls, lms.lookup y = some (pa, bo, ls) → LamSt l.prog w K mg Pg N scope y pa bo ls) ∧
    (∀ base : Heap, K.In base → base.Ns mainGlobals mg → ModOk l.prog w K mg base Pg ∧ ∀ T, LmsOk l.prog w K mg Pg T → ∀ j y d, Pg.defs.lookup y = some d → ∀ B, Big base B → DefK l.prog w K mg B Pg j T y d.ps.length) ∧
    ∀ (T : Tbs) (base : Heap) (cd : Value) (A : Around) (outer : List Env) (s : Shared) (H : Hp) (E : XK), XS Pg k T (cxG l.prog w K mg base N "law" scope fa cd A outer s H E) (fun cls d _ H' => E cls d H') → (lms = [] ∨ LamF T (cxG l.prog w K mg base N "law" scope fa cd A outer s H E) lms) → CapF T (cxG l.prog w K mg base N "law" scope fa cd A outer s H E) caps → LmsOk l.prog w K mg Pg T →
      SSs Pg k T (cxG l.prog w K mg base N "law" scope fa cd A outer s H E) (fun cls d _ H' => E cls d H') body js
theorem walk_g {l : PySem.W.OpenLaw} {n k : Nat} {q : Program} {loose : List Str} {XP : (Str → Option Value) → Heap → Prop} {YP : World → Heap → Prop} {d : DefRec} {Pg : Prg} {x : Str} {params : Arguments} {body : List Stmt} {scope : Scope} {N : List Str} {lms : Lms} {caps : List Nat} {js : List J}
    (hn : l.most = some n) (hn2 : n ≤ sizeLine) (hdf : d.params.defaults = []) (hr : Room (k + 3) callerA) (hdn : d.name = "law") (S : FnScope N [x] scope)
    (hbd : ∀ (kV doc pm : Value) (an : Option Addr) (cdv ct : Value) (us : List Value), us.length = 1 → bindArgs (PySem.W.fnOf "law" "law" params body scope .none kV doc pm an cdv ct) ⟨us, []⟩ = pure ([x].zip us)) (hcaps : ∀ i ∈ caps, ∃ y, N[i]? = some y ∧ scope.names.lookup y = some .cell)
    (F : ∀ (w : World) (mg : Str → Option Value) (fa : Addr) (h : Heap), YP w h → h.Ns mainGlobals mg → mg "law" = some (.ref fa) → HeadG l w mg h fa Pg x params body scope N lms k caps js)
    (hlaw : ∀ ns : List Int, ns.length ≤ n → (∀ z ∈ ns, Builtin.Int.intBits z ≤ 1048576) → ∃ s', sL (ev Pg (callN Pg k) Pg.af) js ⟨.val (.scr (ns.map .int)) :: List.replicate (N.length - 1) .un, [], []⟩ = some (.ok (.rt (.val (.bl true))), s')) :
    PySem.W.WalkO q loose XP YP l.row.toRowW d [] (fun f vs => PySem.call f vs) := by
  refine Att.attach_callB hn hdf fun w s0 s1 mg mb fa o pm cd doc a vs ns G Y ho hd hcd hmg hobj hints hlen hbits hgen => ?_
  rw [hdn] at hmg
  obtain ⟨K, cs, fd, KX, hT, nT, C, FD, hq, hcs, hls, hF, der⟩ := (F w mg fa _ Y G.T.g hmg).ex
  exact law_g KX G.T.g G.T.b G.T.builtins G.T.nolimit hgen hT nT C G.T.bmain hobj hints (Nat.le_trans hlen hn2) hr FD S hbd hq hcs hcaps hls hF der (hlaw ns hlen hbits)
/-- a def of the program, told -/
structure DefIn (Pr : Program) (w : World) (K : PySem.W.Frag) (mg : Str → Option Value) (P : Prg) (x : Str) (df : Df) : Prop where
  ex : ∃ (qual : Str) (params : Arguments) (body : List Stmt) (scope : Scope) (f : Addr) (fd : FuncData) (N ps : List Str), FunD K x qual params body scope [] [] f fd ∧ FnScope N ps scope ∧ N.length = df.N ∧ ps.length = df.ps.length ∧ df.ps.length ≤ df.N ∧
    (∀ (kV doc pm : Value) (an : Option Addr) (cdv ct : Value) (us : List Value), us.length = ps.length → bindArgs (PySem.W.fnOf x qual params body scope .none kV doc pm an cdv ct) ⟨us, []⟩ = pure (ps.zip us)) ∧ mg x = some (.ref f) ∧
    ∀ (k : Nat) (T : Tbs) (base : Heap) (cd : Value) (A : Around) (outer : List Env) (s : Shared) (H : Hp) (E : XK), LmsOk Pr w K mg P T → XS P k T (cxG Pr w K mg base N qual scope f cd A outer s H E) (fun cls d _ H' => E cls d H') → SSs P k T (cxG Pr w K mg base N qual scope f cd A outer s H E) (fun cls d _ H' => E cls d H') body df.body
theorem all_defs {Pr : Program} {w : World} {K : PySem.W.Frag} {mg : Str → Option Value} {P : Prg} {base : Heap} {T : Tbs} (D : ∀ x df, P.defs.lookup x = some df → DefIn Pr w K mg P x df) (M : ∀ B, Big base B → ModOk Pr w K mg B P) (ml : LmsOk Pr w K mg P T) : ∀ (k j : Nat), j ≤ k → ∀ x df, P.defs.lookup x = some df → ∀ B, Big base B → DefK Pr w K mg B P j T x df.ps.length
  | 0, j, hj, x, df, hf, B, hB => by
    have e : j = 0 := by omega
    subst e
    obtain ⟨qual, params, body, scope, f, fd, N, ps, F, S, hN, hp, hpn, hb, hm, der⟩ := (D x df hf).ex
    exact ⟨f, fd, ps, hm, F.kp, F.bindsN hb, hp, ⟨fun A outer s H args us vs Q E _ _ _ _ _ _ h => by
      obtain ⟨_, _, _, _, _, _, _, _, _, _, _, _, _, _, e, _⟩ := h
      cases e⟩⟩
  | k + 1, j, hj, x, df, hf, B, hB => by
    by_cases e : j ≤ k
    · exact all_defs D M ml k j e x df hf B hB
    · have e : j = k + 1 := by omega
      subst e
      obtain ⟨qual, params, body, scope, f, fd, N, ps, F, S, hN, hp, hpn, hb, hm, der⟩ := (D x df hf).ex
      exact def_g F S hf hN hp hpn (M B hB) hb hm (fun j hj y d hy B2 hB2 => all_defs D M ml k j hj y d hy B2 fun b o e => hB2 b o (hB b o e)) fun cd A outer s H E o => der k T B cd A outer s H E ml o
end Rf
/-! Rm: a def's lambdas, found in its text -/
namespace Rf
open PySem PySem.Spec L2
abbrev LamT := Arguments × Expr × Scope
def lamE : Nat → Expr → List LamT
  | 0, _ => []
  | n + 1, e => match e with
    | .Lambda a b s _ => [(a, b, s)]
    | .Call f as _ _ => lamE n f ++ as.flatMap (lamE n)
    | .Tuple es _ _ => es.flatMap (lamE n)
    | .List es _ => es.flatMap (lamE n)
    | .BoolOp _ es _ => es.flatMap (lamE n)
    | .BinOp l _ r _ => lamE n l ++ lamE n r
    | .UnaryOp _ a _ => lamE n a
    | .Compare l _ rs _ => lamE n l ++ rs.flatMap (lamE n)
    | .IfExp t a b _ => lamE n t ++ lamE n a ++ lamE n b
    | .Subscript a b _ => lamE n a ++ lamE n b
    | _ => []
def lamS : Nat → Stmt → List LamT
  | 0, _ => []
  | n + 1, s => match s with
    | .Expr e _ => lamE 30 e
    | .Assign _ v _ => lamE 30 v
    | .Return (some v) _ => lamE 30 v
    | .If t a b _ => lamE 30 t ++ a.flatMap (lamS n) ++ b.flatMap (lamS n)
    | .For _ it b o _ => lamE 30 it ++ b.flatMap (lamS n) ++ o.flatMap (lamS n)
    | .While t b o _ => lamE 30 t ++ b.flatMap (lamS n) ++ o.flatMap (lamS n)
    | _ => []
def lamsOf (b : List Stmt) : List LamT := b.flatMap (lamS 20)
def noLam : LamT := (⟨[], [], none, [], [], none, []⟩, .Constant .none 0 ⟨0, 0, 0, 0⟩, ⟨.function, [], false, false, []⟩)
end Rf
/-! Rh: what the head tells -/
namespace Rf
open PySem PySem.Spec L2 PyProof.Rows
/-! ### an error class -/
theorem oexB_ok {K : PySem.W.Frag} {C : Addr} (h : oexB K C = true) : ∃ nm q N bs bm sn sub ab col dd k0 k1 k2 k3 k5, K.lookup C = some (excClassObj nm q C N bs bm true sn sub ab col dd k0 k1 k2 k3 k5 "ValueError.__new__") ∧ PySem.HandSPX.refsVE bm = true := by
  unfold oexB at h
  split at h
  · rename_i dd cd sl ho
    split at h
    · rename_i C2 bm k0 k1 k2 k3 n k5 hm hs
      simp only [Bool.and_eq_true, beq_iff_eq, Bool.not_eq_true'] at h
      obtain ⟨rfl, rfl, hdel, hv, hdct⟩ := h
      obtain ⟨nm, bs, mro, ns, qn, hd, sn, sub, ab, col, del⟩ := cd
      dsimp only at hm hdel hdct
      subst hm hdel hdct
      have hsl : sl = #[k0, k1, k2, k3, some (.builtin "ValueError.__new__"), k5] := by
        obtain ⟨l⟩ := sl
        simp only at hs
        rw [hs]
      subst hsl
      exact ⟨_, _, _, _, _, _, _, _, _, _, _, _, _, _, _, ho, hv⟩
    · cases h
  · cases h
def idxL : Nat → List Str → List (Str × Nat)
  | _, [] => []
  | k, f :: r => (f, k) :: idxL (k + 1) r
theorem idxL_fst : ∀ (k : Nat) (fs : List Str), (idxL k fs).map (·.1) = fs
  | _, [] => rfl
  | k, f :: r => by rw [idxL, List.map_cons, idxL_fst (k + 1) r]
theorem al_start {σ : L2.St} : ∀ {fs : List Str} {ws : List V} {k : Nat}, ws.length = fs.length → (∀ (i : Nat) w, ws[i]? = some w → σ[k + i]? = some (some w)) → Al σ (idxL k fs) ws
  | [], [], _, _, _ => .nil
  | f :: fs, w :: ws, k, hl, h => .cons (h 0 w rfl) (al_start (by simpa using hl) fun i u e => by
    have z := h (i + 1) u (by simpa using e)
    rw [show k + (i + 1) = k + 1 + i by omega] at z
    exact z)
def tIni (K : PySem.W.Frag) (z : Str) (fs : List Str) : TS := tSeq (tDrop (tVeI K (tCons (tVar 0) (tCons (tC (.str z)) tNil)))) (tStores K (idxL 1 fs))
theorem xck_of {Pr : Program} {w : World} {K : PySem.W.Frag} {mg : Str → Option Value} {base : Heap} {c b : Str} {f0 : Str} {fs : List Str} {qual z : Str} {params : Arguments} {body : List Stmt} {scope : Scope} {fd : FuncData} {N ps : List Str} (hm : mg c = some (.ref (He.ga K c))) (h : excB K c b (f0 :: fs) = true)
    (F : FunD K "__init__" qual params body scope [] [] (He.ma K (He.ga K c) "__init__") fd) (S : FnScope N ps scope) (hps : ps.length = (f0 :: fs).length + 1) (hnd : (f0 :: fs).Nodup) (h15 : (f0 :: fs).length ≤ 15)
    (hb : ∀ (kV doc pm : Value) (an : Option Addr) (cdv ct : Value) (us : List Value), us.length = ps.length → bindArgs (PySem.W.fnOf "__init__" qual params body scope .none kV doc pm an cdv ct) ⟨us, []⟩ = pure (ps.zip us))
    (der : ∀ (cd : Value) (A : Around) (outer : List Env) (s : Shared) (H : Hp) (E : XK), sinB K (He.ga K b) = true → PSs (cxOf CX0 Pr w K mg base N qual scope (He.ma K (He.ga K c) "__init__") cd A outer s H E).nox body (tIni K z (f0 :: fs))) : XcK Pr w K mg base c (f0 :: fs) := by
  obtain ⟨h1, h⟩ := Bool.and_eq_true_iff.mp h
  obtain ⟨h2, h⟩ := Bool.and_eq_true_iff.mp h
  obtain ⟨h3, h⟩ := Bool.and_eq_true_iff.mp h
  obtain ⟨h4, h⟩ := Bool.and_eq_true_iff.mp h
  obtain ⟨h5, h⟩ := Bool.and_eq_true_iff.mp h
  obtain ⟨h6, h⟩ := Bool.and_eq_true_iff.mp h
  obtain ⟨h7, h⟩ := Bool.and_eq_true_iff.mp h
  obtain ⟨h8, h⟩ := Bool.and_eq_true_iff.mp h
  obtain ⟨h9, h10⟩ := Bool.and_eq_true_iff.mp h
  have oc : OexC K (He.ga K c) := ⟨oexB_ok h1, He.eqO_ok h2, of_decide_eq_true h3, of_decide_eq_true h4, h5⟩
  have hno : ∀ f ∈ f0 :: fs, PySem.W.findIn K (.ref (He.ga K c)) f = some none := fun f hf => of_decide_eq_true (List.all_eq_true.mp h7 f hf)
  refine ⟨_, _, fd, ps, hm, oc, He.eqO_ok h8, of_decide_eq_true h9, F.bindsN hb, F.ok S (fun vs H Q E hs => ?_) (fun cdv A outer s H vs Q E hr hs => ⟨tIni K z (f0 :: fs), PSs.nox (der cdv A outer s H E h10), ?_⟩), xfB_ok h6, hno, hnd, h15⟩
  · obtain ⟨a, ws, rfl, hl, _⟩ := hs
    rw [hps, List.length_cons, hl]
  · obtain ⟨a, ws, rfl, hl, ha, k⟩ := hs
    have s0 : (L2.start N (V.ref a :: ws))[0]? = some (some (V.ref a)) := start_val rfl
    refine ⟨_, s0, a, He.ga K c, [.str z], rfl, by simp, oc, ha, ?_⟩
    have al : Al (L2.start N (V.ref a :: ws)) (idxL 1 (f0 :: fs)) ws := al_start hl fun i u e => by
      rw [show 1 + i = i + 1 by omega]
      exact start_val (by simpa using e)
    exact ini_law (D := { nx := fun _ H' => Q .non H', rt := Q }) oc (show f0 :: fs = ((f0, 1) :: idxL 2 fs).map (·.1) by rw [List.map_cons, idxL_fst]) hnd hno (by omega) s0 al ha k
/-! ### a module's constants -/
mutual
theorem valB_ok {K : PySem.W.Frag} : ∀ {d : D} {u : Value}, valB K d u = true → ∃ v, RelV v u ∧ ∀ g : GS, g.K = K → Rp g d v
  | .non, .none, _ => ⟨.non, rfl, fun g _ => .non⟩
  | .bl b, .bool c, h => ⟨.bl c, rfl, fun g _ => by rw [beq_iff_eq.mp (show (b == c) = true from h)]; exact .bl c⟩
  | .int i, .int j t, h => ⟨.int j, ⟨t, rfl⟩, fun g _ => by rw [beq_iff_eq.mp (show (i == j) = true from h)]; exact .int j⟩
  | .str x, .str y t, h => ⟨.str y, ⟨t, rfl⟩, fun g _ => by rw [of_decide_eq_true (show decide (x = y) = true from h)]; exact .str y⟩
  | .tup ds, .ref a, h => by
    unfold valB at h
    split at h
    · rename_i o ho
      obtain ⟨h1, h2⟩ := Bool.and_eq_true_iff.mp h
      split at h2
      · rename_i its n hd
        obtain ⟨h3, h4⟩ := Bool.and_eq_true_iff.mp h2
        obtain ⟨vs, r, q⟩ := valsB_ok h4
        have hz := of_decide_eq_true h3
        exact ⟨.ref a, rfl, fun g e => .tup (vs := vs) (.inr ⟨o, its, n, by rw [e]; exact ho, of_decide_eq_true h1, hd, by rw [sizeLine_eq]; omega, r⟩) (q g e)⟩
      · cases h2
    · cases h
theorem valsB_ok {K : PySem.W.Frag} : ∀ {ds : List D} {us : List Value}, valsB K ds us = true → ∃ vs, Vals vs us ∧ ∀ g : GS, g.K = K → RpL g ds vs
  | [], [], _ => ⟨[], .nil, fun g _ => .nil⟩
  | d :: ds, u :: us, h => by
    unfold valsB at h
    obtain ⟨h1, h2⟩ := Bool.and_eq_true_iff.mp h
    obtain ⟨v, r1, q1⟩ := valB_ok h1
    obtain ⟨vs, r2, q2⟩ := valsB_ok h2
    exact ⟨v :: vs, .cons r1 r2, fun g e => .cons (q1 g e) (q2 g e)⟩
end
theorem glbB_ok {K : PySem.W.Frag} {h : Heap} {mg : Str → Option Value} {x : Str} {d : D} (X : K.In h) (G : h.Ns mainGlobals mg) (c : glbB K x d = true) : ∃ u v, mg x = some u ∧ RelV v u ∧ ∀ g : GS, g.K = K → g.mg = mg → Rp g d v := by
  have other : (match PySem.W.nsIn K mainGlobals x with
    | some (some u) => valB K d u
    | _ => false) = true → ∃ u v, mg x = some u ∧ RelV v u ∧ ∀ g : GS, g.K = K → g.mg = mg → Rp g d v := fun c => by
    split at c
    · rename_i u e
      obtain ⟨v, r, q⟩ := valB_ok c
      exact ⟨u, v, PySem.W.mg_of X G e, r, fun g e _ => q g e⟩
    · cases c
  cases d with
  | fn y =>
    obtain ⟨h1, h2⟩ := Bool.and_eq_true_iff.mp (show (decide (y = x) && (He.eqO (PySem.W.nsIn K mainGlobals x) (some (some (.ref (He.ga K x)))) && PySem.W.keepIn K (.ref (He.ga K x)))) = true from c)
    obtain ⟨h3, h4⟩ := Bool.and_eq_true_iff.mp h2
    have e := PySem.W.mg_of X G (He.eqO_ok h3)
    rw [of_decide_eq_true h1]
    exact ⟨_, .ref (He.ga K x), e, rfl, fun g eK em => .fn (by rw [em]; exact e) (by rw [eK]; exact h4)⟩
  | _ => exact other c
/-! ### all of it -/
theorem modOk_of {Pr : Program} {w : World} {K : PySem.W.Frag} {mg : Str → Option Value} {base : Heap} {P : Prg} {bs : List (Str × Str)} {law : Str} (X : K.In base) (G : base.Ns mainGlobals mg) (fa : ∀ f ∈ fasOf P law, f.ok K = true) (c : exB P bs K = true)
    (ini : ∀ p ∈ P.excs, excB K p.1 ((bs.lookup p.1).getD "") p.2 = true → mg p.1 = some (.ref (He.ga K p.1)) → XcK Pr w K mg base p.1 p.2) : ModOk Pr w K mg base P := by
  obtain ⟨c1, c⟩ := Bool.and_eq_true_iff.mp c
  obtain ⟨c2, c⟩ := Bool.and_eq_true_iff.mp c
  obtain ⟨c3, c4⟩ := Bool.and_eq_true_iff.mp c
  have exm : ∀ p ∈ P.excs, mg p.1 = some (.ref (He.ga K p.1)) := fun p hp => He.glo_ok X G (fa (.glo p.1) (List.mem_cons_of_mem _ (List.mem_append_right _ (List.mem_append_right _ (List.mem_append_right _ (List.mem_map.mpr ⟨p, hp, rfl⟩))))))
  have mem : ∀ {α : Type} {l : List (Str × α)} {y : Str} {v : α}, l.lookup y = some v → (y, v) ∈ l := fun e => PySem.mem_of_lookup e
  refine ⟨fun x hx => ?_, fun x d hx => ?_, fun x id hx => ?_, fun c fs hx => ?_, fun y lm hy => ?_, fun a fs b fs2 C C2 h1 h2 e1 e2 => ?_⟩
  · have hx : x ∈ P.free := by simpa using hx
    exact He.free_ok X G (fa (.free x) (List.mem_cons_of_mem _ (List.mem_append_left _ (List.mem_map.mpr ⟨x, hx, rfl⟩))))
  · exact glbB_ok X G (List.all_eq_true.mp c1 _ (mem hx))
  · exact PySem.W.mg_of X G (He.eqO_ok (List.all_eq_true.mp c2 _ (mem hx)))
  · exact ini _ (mem hx) (List.all_eq_true.mp c3 _ (mem hx)) (exm _ (mem hx))
  · exact He.free_ok X G (fa (.free y) (List.mem_cons_of_mem _ (List.mem_append_right _ (List.mem_append_left _ (List.mem_map.mpr ⟨_, mem hy, rfl⟩)))))
  · have z := of_decide_eq_true (List.all_eq_true.mp (List.all_eq_true.mp c4 _ (mem h1)) _ (mem h2))
    have q1 := exm _ (mem h1)
    have q2 := exm _ (mem h2)
    rw [e1] at q1
    rw [e2] at q2
    cases q1
    cases q2
    exact z
theorem glo_def {K : PySem.W.Frag} {mg : Str → Option Value} {base : Heap} {P : Prg} {law : Str} (X : K.In base) (G : base.Ns mainGlobals mg) (fa : ∀ f ∈ fasOf P law, f.ok K = true) {x : Str} {df : Df} (hx : (x, df) ∈ P.defs) : mg x = some (.ref (He.ga K x)) :=
  He.glo_ok X G (fa (.glo x) (List.mem_cons_of_mem _ (List.mem_append_right _ (List.mem_append_right _ (List.mem_append_left _ (List.mem_map.mpr ⟨_, hx, rfl⟩))))))
theorem all_mem {α : Type} {Q : α → Prop} {a : α} {l : List α} (h : Q a) (r : ∀ p ∈ l, Q p) : ∀ p ∈ a :: l, Q p := fun p hp => by
  rcases List.mem_cons.mp hp with e | e
  · rw [e]; exact h
  · exact r p e
theorem all_nil {α : Type} {Q : α → Prop} : ∀ p ∈ ([] : List α), Q p := fun p hp => absurd hp (by simp)
/-- free names of a lambda -/
def lamFrB (N : List Str) (fr : List Nat) (ls : Scope) : Bool := ls.names.all fun y => !decide (y.2 = .free) || fr.any fun i => decide (N[i]? = some y.1)
theorem lamFrB_ok {N : List Str} {fr : List Nat} {ls : Scope} (h : lamFrB N fr ls = true) : ∀ y ∈ ls.names, y.2 = .free → ∃ i ∈ fr, N[i]? = some y.1 := fun y hy e => by
  have z := List.all_eq_true.mp h y hy
  simp only [e, decide_true, Bool.not_true, Bool.false_or] at z
  obtain ⟨i, hi, e2⟩ := List.any_eq_true.mp z
  exact ⟨i, hi, of_decide_eq_true e2⟩
theorem code_law {K : PySem.W.Frag} {x qual : Str} {params : Arguments} {body : List Stmt} {scope : Scope} {dvs : List V} {kws : List (Str × V)} {p : He.Defn} {fd : FuncData} (F : FunD K x qual params body scope dvs kws (He.fAd K p) fd) : fd.code = .ref (He.cT K p).1 := by
  obtain ⟨oc, od, dV, kV, doc, pm, an, cdv, ct, osl, rfl, lk, hcd, _, _⟩ := F.ex
  obtain ⟨c, rfl⟩ := He.codeIn_ref hcd
  show Value.ref c = Value.ref (He.codeOf K p)
  rw [He.codeOf_eq lk rfl]
theorem lams_all {Pr : Program} {w : World} {K : PySem.W.Frag} {mg : Str → Option Value} {P : Prg} {N : List Str} {sc : Scope} {lms : Lms} (h : ∀ p ∈ lms, LamSt Pr w K mg P N sc p.1 p.2.1 p.2.2.1 p.2.2.2) : ∀ y pa bo ls, lms.lookup y = some (pa, bo, ls) → LamSt Pr w K mg P N sc y pa bo ls :=
  fun y pa bo ls e => h _ (PySem.mem_of_lookup e)
theorem defs_all {Pr : Program} {w : World} {K : PySem.W.Frag} {mg : Str → Option Value} {P : Prg} (h : ∀ p ∈ P.defs, DefIn Pr w K mg P p.1 p.2) : ∀ x df, P.defs.lookup x = some df → DefIn Pr w K mg P x df :=
  fun x df e => h _ (PySem.mem_of_lookup e)
theorem in_big {K : PySem.W.Frag} {base B : Heap} (h : K.In base) (b : Big base B) : K.In B := fun a o e => b a o (h a o e)
theorem ns_big {base B : Heap} {x : Addr} {m : Str → Option Value} (h : base.Ns x m) (b : Big base B) : B.Ns x m :=
  let ⟨o, es, ep, e, d, r⟩ := h
  ⟨o, es, ep, b _ _ e, d, r⟩
end Rf
/-! Rs: the evaluator's texts run with simp: equations that fire at the head, on a state -/
namespace Rf
open PySem PySem.Spec L2
/-- an equation that simp shall not take for a definition's own -/
theorem nr {α : Sort u} {a b : α} (h : a = b) : a = b := h
/-- a value taken as data -/
def Ev.bD {β : Type} (m : Ev R) (f : D → Ev β) : Ev β := Ev.bind m fun x => f x.d
def setE : List Bd → Nat → Bd → Option (List Bd)
  | .lent _ :: _, 0, _ => none
  | _ :: l, 0, b => some (b :: l)
  | a :: l, i + 1, b => (setE l i b).map (a :: ·)
  | [], _, _ => none
section
variable {α β γ : Type} {P : Prg} {c : Str → List D → List (Option D) → Sto → Option (Except Exn R × Sto)} {r : Rec} {n : Nat} {s : Sx} {env : List Bd} {S : Sto} {L : List (Option D)}
theorem bb {m : Ev α} {f : α → Ev β} {g : β → Ev γ} : Ev.bind (Ev.bind m f) g = Ev.bind m (fun x => Ev.bind (f x) g) := by
  funext s
  unfold Ev.bind
  cases m s with
  | none => rfl
  | some p =>
    obtain ⟨x, t⟩ := p
    cases x <;> rfl
theorem bbD {m : Ev α} {f : α → Ev R} {g : D → Ev γ} : Ev.bD (Ev.bind m f) g = Ev.bind m (fun x => Ev.bD (f x) g) := bb
theorem z_bb {m : Ev α} {f : α → Ev β} {g : β → Ev γ} : Ev.bind (Ev.bind m f) g s = Ev.bind m (fun x => Ev.bind (f x) g) s := congrFun bb s
theorem z_bDb {m : Ev R} {f : D → Ev β} {g : β → Ev γ} : Ev.bind (Ev.bD m f) g s = Ev.bD m (fun x => Ev.bind (f x) g) s := congrFun bb s
theorem z_bDD {m : Ev R} {f : D → Ev R} {g : D → Ev γ} : Ev.bD (Ev.bD m f) g s = Ev.bD m (fun x => Ev.bD (f x) g) s := congrFun bb s
theorem z_bbD {m : Ev α} {f : α → Ev R} {g : D → Ev γ} : Ev.bD (Ev.bind m f) g s = Ev.bind m (fun x => Ev.bD (f x) g) s := congrFun bb s
theorem z_ok {x : α} {f : α → Ev β} : Ev.bind (Ev.ok x) f s = f x s := nr rfl
theorem z_okV {d : D} {f : D → Ev β} : Ev.bD (Ev.ok (.val d)) f s = f d s := nr rfl
theorem z_okF {d : List D} {f : D → Ev β} : Ev.bD (Ev.ok (.fresh d)) f s = f (.lst d) s := nr rfl
theorem z_of {o : Option α} {f : α → Ev β} : Ev.bind (Ev.of o) f s = match o with
    | some x => f x s
    | none => none := by cases o <;> rfl
theorem z_ofD {o : Option R} {f : D → Ev β} : Ev.bD (Ev.of o) f s = match o with
    | some (.val d) => f d s
    | some (.fresh d) => f (.lst d) s
    | none => none := by
  cases o with
  | none => rfl
  | some x => cases x <;> rfl
theorem z_end {m : Ev α} : Ev.bind m Ev.ok s = m s := by
  unfold Ev.bind
  cases m s with
  | none => rfl
  | some p =>
    obtain ⟨x, t⟩ := p
    cases x <;> rfl
theorem z_kok {x : α} : Ev.ok x s = some (.ok x, s) := nr rfl
theorem z_sto {g : Sto → Ev α} {f : α → Ev β} : Ev.bind (sto g) f ⟨env, S, L⟩ = Ev.bind (g S) f ⟨env, S, L⟩ := nr rfl
theorem z_stoD {g : Sto → Ev R} {f : D → Ev β} : Ev.bD (sto g) f ⟨env, S, L⟩ = Ev.bD (g S) f ⟨env, S, L⟩ := nr rfl
theorem z_getV {i : Nat} {f : R → Ev β} : Ev.bind (getV i) f ⟨env, S, L⟩ = match env[i]? with
    | some (.val d) => f (.val d) ⟨env, S, L⟩
    | some (.own xs) => f (.val (.lst xs)) ⟨env.set i (.val (.lst xs)), S, L⟩
    | _ => none := by
  unfold Ev.bind getV
  dsimp only
  cases env[i]? with
  | none => rfl
  | some b => cases b <;> rfl
theorem z_getD {i : Nat} {f : D → Ev β} : Ev.bD (getV i) f ⟨env, S, L⟩ = match env[i]? with
    | some (.val d) => f d ⟨env, S, L⟩
    | some (.own xs) => f (.lst xs) ⟨env.set i (.val (.lst xs)), S, L⟩
    | _ => none := z_getV
theorem z_getP {i : Nat} {f : Pl → Ev β} : Ev.bind (getP i) f ⟨env, S, L⟩ = match env[i]? with
    | some .un | none => none
    | _ => f (.var i) ⟨env, S, L⟩ := by
  unfold Ev.bind getP
  dsimp only
  cases env[i]? with
  | none => rfl
  | some b => cases b <;> rfl
theorem z_getO {i : Nat} {f : Unit → Ev β} : Ev.bind (getO i) f ⟨env, S, L⟩ = match env[i]? with
    | some (.own _) => f () ⟨env, S, L⟩
    | _ => none := by
  unfold Ev.bind getO
  dsimp only
  cases env[i]? with
  | none => rfl
  | some b => cases b <;> rfl
theorem z_resV {i : Nat} {f : D → Ev β} : Ev.bind (resP (.var i)) f ⟨env, S, L⟩ = match env[i]? with
    | some (.val d) => f d ⟨env, S, L⟩
    | some (.own xs) => f (.lst xs) ⟨env, S, L⟩
    | some (.lent xs) => f (.lst xs) ⟨env, S, L⟩
    | _ => none := by
  unfold Ev.bind resP
  dsimp only
  cases env[i]? with
  | none => rfl
  | some b => cases b <;> rfl
theorem z_resT {d : D} {f : D → Ev β} : Ev.bind (resP (.tmp d)) f s = f d s := nr rfl
theorem setE_v {d : D} {l : List Bd} {b : Bd} : setE (.val d :: l) 0 b = some (b :: l) := nr rfl
theorem setE_u {l : List Bd} {b : Bd} : setE (.un :: l) 0 b = some (b :: l) := nr rfl
theorem setE_o {d : List D} {l : List Bd} {b : Bd} : setE (.own d :: l) 0 b = some (b :: l) := nr rfl
theorem setE_s {a : Bd} {l : List Bd} {i : Nat} {b : Bd} : setE (a :: l) (i + 1) b = match setE l i b with
    | some l' => some (a :: l')
    | none => none := by
  cases a <;> (show (setE l i b).map _ = _; cases setE l i b <;> rfl)
theorem setE_eq : ∀ {l : List Bd} {i : Nat} {b : Bd}, setE l i b = match l[i]? with
    | some (.lent _) | none => none
    | _ => some (l.set i b)
  | [], _, _ => by unfold setE; rfl
  | a :: l, 0, b => by cases a <;> rfl
  | a :: l, i + 1, b => by
    rw [setE_s, setE_eq, List.getElem?_cons_succ, List.set_cons_succ]
    cases l[i]? with
    | none => rfl
    | some b => cases b <;> rfl
theorem z_putV {i : Nat} {x : R} {f : Unit → Ev β} : Ev.bind (putV i x) f ⟨env, S, L⟩ = match setE env i x.bd with
    | some e2 => f () ⟨e2, S, L⟩
    | none => none := by
  rw [setE_eq]
  unfold Ev.bind putV
  dsimp only
  cases env[i]? with
  | none => rfl
  | some b => cases b <;> rfl
theorem rbd_v {d : D} : (R.val d).bd = .val d := nr rfl
theorem rbd_f {d : List D} : (R.fresh d).bd = .own d := nr rfl
/-! ### forms -/
theorem sto_bind {g : Sto → Ev α} {f : α → Ev β} : Ev.bind (sto g) f = sto fun S => Ev.bind (g S) f := nr rfl
theorem sto_bD {g : Sto → Ev R} {f : D → Ev β} : Ev.bD (sto g) f = sto fun S => Ev.bD (g S) f := nr rfl
theorem z_stoK {g : Sto → Ev α} : sto g ⟨env, S, L⟩ = g S ⟨env, S, L⟩ := nr rfl
theorem z_P_var {i : Nat} {f : Pl → Ev β} : Ev.bind (eP r (.var i)) f s = Ev.bind (getP i) f s := nr rfl
theorem z_P_cst {d : D} {f : Pl → Ev β} : Ev.bind (eP r (.cst d)) f s = Ev.bD (r.e (.cst d)) (fun d => f (.tmp d)) s := z_bb
theorem z_P_glb {x : Str} {d : D} {f : Pl → Ev β} : Ev.bind (eP r (.glb x d)) f s = Ev.bD (r.e (.glb x d)) (fun d => f (.tmp d)) s := z_bb
theorem z_P_bin {o : Operator} {a b : I} {f : Pl → Ev β} : Ev.bind (eP r (.bin o a b)) f s = Ev.bD (r.e (.bin o a b)) (fun d => f (.tmp d)) s := z_bb
theorem z_P_neg {a : I} {f : Pl → Ev β} : Ev.bind (eP r (.neg a)) f s = Ev.bD (r.e (.neg a)) (fun d => f (.tmp d)) s := z_bb
theorem z_P_nt {a : I} {f : Pl → Ev β} : Ev.bind (eP r (.nt a)) f s = Ev.bD (r.e (.nt a)) (fun d => f (.tmp d)) s := z_bb
theorem z_P_and {a b : I} {f : Pl → Ev β} : Ev.bind (eP r (.and a b)) f s = Ev.bD (r.e (.and a b)) (fun d => f (.tmp d)) s := z_bb
theorem z_P_or {a b : I} {f : Pl → Ev β} : Ev.bind (eP r (.or a b)) f s = Ev.bD (r.e (.or a b)) (fun d => f (.tmp d)) s := z_bb
theorem z_P_cmp {o : CmpOp} {a b : I} {f : Pl → Ev β} : Ev.bind (eP r (.cmp o a b)) f s = Ev.bD (r.e (.cmp o a b)) (fun d => f (.tmp d)) s := z_bb
theorem z_P_chn {o o2 : CmpOp} {a b d : I} {f : Pl → Ev β} : Ev.bind (eP r (.chn o o2 a b d)) f s = Ev.bD (r.e (.chn o o2 a b d)) (fun d => f (.tmp d)) s := z_bb
theorem z_P_ite {t a b : I} {f : Pl → Ev β} : Ev.bind (eP r (.ite t a b)) f s = Ev.bD (r.e (.ite t a b)) (fun d => f (.tmp d)) s := z_bb
theorem z_P_call {g : Str} {as : List I} {f : Pl → Ev β} : Ev.bind (eP r (.call g as)) f s = Ev.bD (r.e (.call g as)) (fun d => f (.tmp d)) s := z_bb
theorem z_P_callv {g : I} {as : List I} {f : Pl → Ev β} : Ev.bind (eP r (.callv g as)) f s = Ev.bD (r.e (.callv g as)) (fun d => f (.tmp d)) s := z_bb
theorem z_P_callc {g : Str} {as : List I} {cs : List Nat} {f : Pl → Ev β} : Ev.bind (eP r (.callc g as cs)) f s = Ev.bD (r.e (.callc g as cs)) (fun d => f (.tmp d)) s := z_bb
theorem z_P_callv0 {i : Nat} {f : Pl → Ev β} : Ev.bind (eP r (.callv0 i)) f s = Ev.bD (r.e (.callv0 i)) (fun d => f (.tmp d)) s := z_bb
theorem z_P_lam {x : Str} {f : Pl → Ev β} : Ev.bind (eP r (.lam x)) f s = Ev.bD (r.e (.lam x)) (fun d => f (.tmp d)) s := z_bb
theorem z_P_bi {b : Bi} {as : List I} {f : Pl → Ev β} : Ev.bind (eP r (.bi b as)) f s = Ev.bD (r.e (.bi b as)) (fun d => f (.tmp d)) s := z_bb
theorem z_P_isi {a : I} {ts : List String} {f : Pl → Ev β} : Ev.bind (eP r (.isi a ts)) f s = Ev.bD (r.e (.isi a ts)) (fun d => f (.tmp d)) s := z_bb
theorem z_P_bits {a : I} {f : Pl → Ev β} : Ev.bind (eP r (.bits a)) f s = Ev.bD (r.e (.bits a)) (fun d => f (.tmp d)) s := z_bb
theorem z_P_app {i : Nat} {a : I} {f : Pl → Ev β} : Ev.bind (eP r (.app i a)) f s = Ev.bD (r.e (.app i a)) (fun d => f (.tmp d)) s := z_bb
theorem z_P_pop {i : Nat} {a : I} {f : Pl → Ev β} : Ev.bind (eP r (.pop i a)) f s = Ev.bD (r.e (.pop i a)) (fun d => f (.tmp d)) s := z_bb
theorem z_P_idx {a b : I} {f : Pl → Ev β} : Ev.bind (eP r (.idx a b)) f s = Ev.bD (r.e (.idx a b)) (fun d => f (.tmp d)) s := z_bb
theorem z_P_key {a : I} {k : Str} {f : Pl → Ev β} : Ev.bind (eP r (.key a k)) f s = Ev.bD (r.e (.key a k)) (fun d => f (.tmp d)) s := z_bb
theorem z_P_slc {a : I} {lo hi : Option I} {f : Pl → Ev β} : Ev.bind (eP r (.slc a lo hi)) f s = Ev.bD (r.e (.slc a lo hi)) (fun d => f (.tmp d)) s := z_bb
theorem z_P_rev {a : I} {f : Pl → Ev β} : Ev.bind (eP r (.rev a)) f s = Ev.bD (r.e (.rev a)) (fun d => f (.tmp d)) s := z_bb
theorem z_P_tup {as : List I} {f : Pl → Ev β} : Ev.bind (eP r (.tup as)) f s = Ev.bD (r.e (.tup as)) (fun d => f (.tmp d)) s := z_bb
theorem z_P_lst {as : List I} {f : Pl → Ev β} : Ev.bind (eP r (.lst as)) f s = Ev.bD (r.e (.lst as)) (fun d => f (.tmp d)) s := z_bb
theorem z_P_dic {ks : List Str} {as : List I} {f : Pl → Ev β} : Ev.bind (eP r (.dic ks as)) f s = Ev.bD (r.e (.dic ks as)) (fun d => f (.tmp d)) s := z_bb
theorem z_P_lc {e : I} {t : List Nat} {one : Bool} {it : I} {ifs : List I} {ow : List Nat} {f : Pl → Ev β} : Ev.bind (eP r (.lc e t one it ifs ow)) f s = Ev.bD (r.e (.lc e t one it ifs ow)) (fun d => f (.tmp d)) s := z_bb
theorem z_A_nil {f : List D → Ev β} : Ev.bind (eA r []) f s = f [] s := nr rfl
theorem z_A_cons {a : I} {as : List I} {f : List D → Ev β} : Ev.bind (eA r (a :: as)) f s = Ev.bD (r.e a) (fun d => Ev.bind (eA r as) fun ds => f (d :: ds)) s := by
  show Ev.bind (Ev.bind (r.e a) fun x => Ev.bind (eA r as) fun xs => Ev.ok (x.d :: xs)) f s = _
  simp only [bb] <;> rfl
theorem z_Ps_nil {f : List Pl → Ev β} : Ev.bind (ePs r []) f s = f [] s := nr rfl
theorem z_Ps_cons {a : I} {as : List I} {f : List Pl → Ev β} : Ev.bind (ePs r (a :: as)) f s = Ev.bind (eP r a) (fun d => Ev.bind (ePs r as) fun ds => f (d :: ds)) s := by
  show Ev.bind (Ev.bind (eP r a) fun x => Ev.bind (ePs r as) fun xs => Ev.ok (x :: xs)) f s = _
  simp only [bb] <;> rfl
theorem z_L_nil {f : List D → Ev β} : Ev.bind (resL []) f s = f [] s := nr rfl
theorem z_L_cons {p : Pl} {ps : List Pl} {f : List D → Ev β} : Ev.bind (resL (p :: ps)) f s = Ev.bind (resP p) (fun d => Ev.bind (resL ps) fun ds => f (d :: ds)) s := by
  show Ev.bind (Ev.bind (resP p) fun x => Ev.bind (resL ps) fun xs => Ev.ok (x :: xs)) f s = _
  simp only [bb] <;> rfl
theorem z_E_cstn {f : R → Ev β} : Ev.bind ((ev P c (n + 1)).e (.cst .non)) f s = f (.val .non) s := nr rfl
theorem z_E_cstnD {f : D → Ev β} : Ev.bD ((ev P c (n + 1)).e (.cst .non)) f s = f .non s := nr rfl
theorem z_E_cstb {b : Bool} {f : R → Ev β} : Ev.bind ((ev P c (n + 1)).e (.cst (.bl b))) f s = f (.val (.bl b)) s := nr rfl
theorem z_E_cstbD {b : Bool} {f : D → Ev β} : Ev.bD ((ev P c (n + 1)).e (.cst (.bl b))) f s = f (.bl b) s := nr rfl
theorem z_E_csti {i : Int} {f : R → Ev β} : Ev.bind ((ev P c (n + 1)).e (.cst (.int i))) f s = f (.val (.int i)) s := nr rfl
theorem z_E_cstiD {i : Int} {f : D → Ev β} : Ev.bD ((ev P c (n + 1)).e (.cst (.int i))) f s = f (.int i) s := nr rfl
theorem z_E_csts {x : Str} {f : R → Ev β} : Ev.bind ((ev P c (n + 1)).e (.cst (.str x))) f s = f (.val (.str x)) s := nr rfl
theorem z_E_cstsD {x : Str} {f : D → Ev β} : Ev.bD ((ev P c (n + 1)).e (.cst (.str x))) f s = f (.str x) s := nr rfl
theorem z_E_glb {x : Str} {d : D} {f : R → Ev β} : Ev.bind ((ev P c (n + 1)).e (.glb x d)) f s = (f (.val (d))) s := by
  exact nr rfl
theorem z_E_glbD {x : Str} {d : D} {f : D → Ev β} : Ev.bD ((ev P c (n + 1)).e (.glb x d)) f s = (f (d)) s := by
  exact nr rfl
theorem z_E_var {i : Nat} {f : R → Ev β} : Ev.bind ((ev P c (n + 1)).e (.var i)) f s = Ev.bind (getV i) f s := by
  exact nr rfl
theorem z_E_varD {i : Nat} {f : D → Ev β} : Ev.bD ((ev P c (n + 1)).e (.var i)) f s = Ev.bD (getV i) f s := by
  exact nr rfl
theorem z_E_bin {o : Operator} {a b : I} {f : R → Ev β} : Ev.bind ((ev P c (n + 1)).e (.bin o a b)) f s = Ev.bind (eP (ev P c n) a) (fun p => Ev.bind (eP (ev P c n) b) fun q => Ev.bind (resP p) fun x => Ev.bind (resP q) fun y => Ev.bind (Ev.of (binop o x y)) f) s := by
  show Ev.bind (E1 c (ev P c n) (.bin o a b)) f s = _
  unfold E1
  simp only [bb, bbD, sto_bind, sto_bD] <;> rfl
theorem z_E_binD {o : Operator} {a b : I} {f : D → Ev β} : Ev.bD ((ev P c (n + 1)).e (.bin o a b)) f s = Ev.bind (eP (ev P c n) a) (fun p => Ev.bind (eP (ev P c n) b) fun q => Ev.bind (resP p) fun x => Ev.bind (resP q) fun y => Ev.bD (Ev.of (binop o x y)) f) s := by
  show Ev.bD (E1 c (ev P c n) (.bin o a b)) f s = _
  unfold E1
  simp only [bb, bbD, sto_bind, sto_bD] <;> rfl
theorem z_E_neg {a : I} {f : R → Ev β} : Ev.bind ((ev P c (n + 1)).e (.neg a)) f s = Ev.bD ((ev P c n).e a) (fun x => Ev.bind (Ev.of (intD x)) fun i => (f (.val (.int (-i))))) s := by
  show Ev.bind (E1 c (ev P c n) (.neg a)) f s = _
  unfold E1
  simp only [bb, bbD, sto_bind, sto_bD] <;> rfl
theorem z_E_negD {a : I} {f : D → Ev β} : Ev.bD ((ev P c (n + 1)).e (.neg a)) f s = Ev.bD ((ev P c n).e a) (fun x => Ev.bind (Ev.of (intD x)) fun i => (f (.int (-i)))) s := by
  show Ev.bD (E1 c (ev P c n) (.neg a)) f s = _
  unfold E1
  simp only [bb, bbD, sto_bind, sto_bD] <;> rfl
theorem z_E_nt {a : I} {f : R → Ev β} : Ev.bind ((ev P c (n + 1)).e (.nt a)) f s = Ev.bind (eP (ev P c n) a) (fun p => Ev.bind (resP p) fun x => sto fun S => Ev.bind (Ev.of (truD S x)) fun b => (f (.val (.bl (!b))))) s := by
  show Ev.bind (E1 c (ev P c n) (.nt a)) f s = _
  unfold E1
  simp only [bb, bbD, sto_bind, sto_bD] <;> rfl
theorem z_E_ntD {a : I} {f : D → Ev β} : Ev.bD ((ev P c (n + 1)).e (.nt a)) f s = Ev.bind (eP (ev P c n) a) (fun p => Ev.bind (resP p) fun x => sto fun S => Ev.bind (Ev.of (truD S x)) fun b => (f (.bl (!b)))) s := by
  show Ev.bD (E1 c (ev P c n) (.nt a)) f s = _
  unfold E1
  simp only [bb, bbD, sto_bind, sto_bD] <;> rfl
theorem z_E_and {a b : I} {f : R → Ev β} : Ev.bind ((ev P c (n + 1)).e (.and a b)) f s = Ev.bD ((ev P c n).e a) (fun x => match x with | .bl true => Ev.bind ((ev P c n).e b) f | .bl false => (f (.val (.bl false))) | _ => Ev.no) s := by
  show Ev.bind (E1 c (ev P c n) (.and a b)) f s = _
  unfold E1
  simp only [bb, bbD]
  unfold Ev.bD
  refine congrArg (fun g => Ev.bind _ g s) (funext fun x => ?_)
  cases x.d <;> try rfl
  rename_i b
  cases b <;> rfl
theorem z_E_andD {a b : I} {f : D → Ev β} : Ev.bD ((ev P c (n + 1)).e (.and a b)) f s = Ev.bD ((ev P c n).e a) (fun x => match x with | .bl true => Ev.bD ((ev P c n).e b) f | .bl false => (f (.bl false)) | _ => Ev.no) s := by
  show Ev.bD (E1 c (ev P c n) (.and a b)) f s = _
  unfold E1
  simp only [bb, bbD]
  unfold Ev.bD
  refine congrArg (fun g => Ev.bind _ g s) (funext fun x => ?_)
  cases x.d <;> try rfl
  rename_i b
  cases b <;> rfl
theorem z_E_or {a b : I} {f : R → Ev β} : Ev.bind ((ev P c (n + 1)).e (.or a b)) f s = Ev.bD ((ev P c n).e a) (fun x => match x with | .bl false => Ev.bind ((ev P c n).e b) f | .bl true => (f (.val (.bl true))) | _ => Ev.no) s := by
  show Ev.bind (E1 c (ev P c n) (.or a b)) f s = _
  unfold E1
  simp only [bb, bbD]
  unfold Ev.bD
  refine congrArg (fun g => Ev.bind _ g s) (funext fun x => ?_)
  cases x.d <;> try rfl
  rename_i b
  cases b <;> rfl
theorem z_E_orD {a b : I} {f : D → Ev β} : Ev.bD ((ev P c (n + 1)).e (.or a b)) f s = Ev.bD ((ev P c n).e a) (fun x => match x with | .bl false => Ev.bD ((ev P c n).e b) f | .bl true => (f (.bl true)) | _ => Ev.no) s := by
  show Ev.bD (E1 c (ev P c n) (.or a b)) f s = _
  unfold E1
  simp only [bb, bbD]
  unfold Ev.bD
  refine congrArg (fun g => Ev.bind _ g s) (funext fun x => ?_)
  cases x.d <;> try rfl
  rename_i b
  cases b <;> rfl
theorem z_E_cmp {o : CmpOp} {a b : I} {f : R → Ev β} : Ev.bind ((ev P c (n + 1)).e (.cmp o a b)) f s = Ev.bind (eP (ev P c n) a) (fun p => Ev.bind (eP (ev P c n) b) fun q => Ev.bind (resP p) fun x => Ev.bind (resP q) fun y => sto fun S => Ev.bind (Ev.of (cmpop S o x y)) fun b => (f (.val (.bl b)))) s := by
  show Ev.bind (E1 c (ev P c n) (.cmp o a b)) f s = _
  unfold E1
  simp only [bb, bbD, sto_bind, sto_bD] <;> rfl
theorem z_E_cmpD {o : CmpOp} {a b : I} {f : D → Ev β} : Ev.bD ((ev P c (n + 1)).e (.cmp o a b)) f s = Ev.bind (eP (ev P c n) a) (fun p => Ev.bind (eP (ev P c n) b) fun q => Ev.bind (resP p) fun x => Ev.bind (resP q) fun y => sto fun S => Ev.bind (Ev.of (cmpop S o x y)) fun b => (f (.bl b))) s := by
  show Ev.bD (E1 c (ev P c n) (.cmp o a b)) f s = _
  unfold E1
  simp only [bb, bbD, sto_bind, sto_bD] <;> rfl
theorem z_E_chn {o o2 : CmpOp} {a b d : I} {f : R → Ev β} : Ev.bind ((ev P c (n + 1)).e (.chn o o2 a b d)) f s = Ev.bD ((ev P c n).e a) (fun x => Ev.bD ((ev P c n).e b) fun y => sto fun S => Ev.bind (Ev.of (cmpop S o x y)) fun k => match k with | true => Ev.bD ((ev P c n).e d) (fun z => sto fun S => Ev.bind (Ev.of (cmpop S o2 y z)) fun b => (f (.val (.bl b)))) | false => (f (.val (.bl false)))) s := by
  show Ev.bind (E1 c (ev P c n) (.chn o o2 a b d)) f s = _
  unfold E1
  simp only [bb, bbD, sto_bind, sto_bD]
  unfold Ev.bD
  refine congrArg (fun g => Ev.bind _ g s) (funext fun x => ?_)
  refine congrArg (fun g => Ev.bind _ g) (funext fun y => ?_)
  refine congrArg sto (funext fun S => ?_)
  refine congrArg (fun g => Ev.bind _ g) (funext fun k => ?_)
  cases k
  · rfl
  · simp only [if_true, bb, bbD, sto_bind, sto_bD] <;> rfl
theorem z_E_chnD {o o2 : CmpOp} {a b d : I} {f : D → Ev β} : Ev.bD ((ev P c (n + 1)).e (.chn o o2 a b d)) f s = Ev.bD ((ev P c n).e a) (fun x => Ev.bD ((ev P c n).e b) fun y => sto fun S => Ev.bind (Ev.of (cmpop S o x y)) fun k => match k with | true => Ev.bD ((ev P c n).e d) (fun z => sto fun S => Ev.bind (Ev.of (cmpop S o2 y z)) fun b => (f (.bl b))) | false => (f (.bl false))) s := by
  show Ev.bD (E1 c (ev P c n) (.chn o o2 a b d)) f s = _
  unfold E1
  simp only [bb, bbD, sto_bind, sto_bD]
  unfold Ev.bD
  refine congrArg (fun g => Ev.bind _ g s) (funext fun x => ?_)
  refine congrArg (fun g => Ev.bind _ g) (funext fun y => ?_)
  refine congrArg sto (funext fun S => ?_)
  refine congrArg (fun g => Ev.bind _ g) (funext fun k => ?_)
  cases k
  · rfl
  · simp only [if_true, bb, bbD, sto_bind, sto_bD] <;> rfl
theorem z_E_ite {t a b : I} {f : R → Ev β} : Ev.bind ((ev P c (n + 1)).e (.ite t a b)) f s = Ev.bind ((ev P c n).t t) (fun k => match k with | true => Ev.bind ((ev P c n).e a) f | false => Ev.bind ((ev P c n).e b) f) s := by
  show Ev.bind (E1 c (ev P c n) (.ite t a b)) f s = _
  unfold E1
  simp only [bb, bbD]
  refine congrArg (fun g => Ev.bind _ g s) (funext fun x => ?_)
  cases x <;> rfl
theorem z_E_iteD {t a b : I} {f : D → Ev β} : Ev.bD ((ev P c (n + 1)).e (.ite t a b)) f s = Ev.bind ((ev P c n).t t) (fun k => match k with | true => Ev.bD ((ev P c n).e a) f | false => Ev.bD ((ev P c n).e b) f) s := by
  show Ev.bD (E1 c (ev P c n) (.ite t a b)) f s = _
  unfold E1
  simp only [bb, bbD]
  refine congrArg (fun g => Ev.bind _ g s) (funext fun x => ?_)
  cases x <;> rfl
theorem z_E_call {g : Str} {as : List I} {f : R → Ev β} : Ev.bind ((ev P c (n + 1)).e (.call g as)) f s = Ev.bind (eA (ev P c n) as) (fun ds => Ev.bind (callS c g ds) f) s := by
  show Ev.bind (E1 c (ev P c n) (.call g as)) f s = _
  unfold E1
  simp only [bb, bbD, sto_bind, sto_bD] <;> rfl
theorem z_E_callD {g : Str} {as : List I} {f : D → Ev β} : Ev.bD ((ev P c (n + 1)).e (.call g as)) f s = Ev.bind (eA (ev P c n) as) (fun ds => Ev.bD (callS c g ds) f) s := by
  show Ev.bD (E1 c (ev P c n) (.call g as)) f s = _
  unfold E1
  simp only [bb, bbD, sto_bind, sto_bD] <;> rfl
theorem z_E_callc {g : Str} {as : List I} {cs : List Nat} {f : R → Ev β} : Ev.bind ((ev P c (n + 1)).e (.callc g as cs)) f s = Ev.bind (eA (ev P c n) as) (fun ds => Ev.bind (callC c cs g ds) f) s := by
  show Ev.bind (E1 c (ev P c n) (.callc g as cs)) f s = _
  unfold E1
  simp only [bb, bbD, sto_bind, sto_bD] <;> rfl
theorem z_E_callcD {g : Str} {as : List I} {cs : List Nat} {f : D → Ev β} : Ev.bD ((ev P c (n + 1)).e (.callc g as cs)) f s = Ev.bind (eA (ev P c n) as) (fun ds => Ev.bD (callC c cs g ds) f) s := by
  show Ev.bD (E1 c (ev P c n) (.callc g as cs)) f s = _
  unfold E1
  simp only [bb, bbD, sto_bind, sto_bD] <;> rfl
theorem z_E_callv {g : I} {as : List I} {f : R → Ev β} : Ev.bind ((ev P c (n + 1)).e (.callv g as)) f s = Ev.bD ((ev P c n).e g) (fun x => match x with | .fn y => Ev.bind (eA (ev P c n) as) (fun ds => Ev.bind (callS c y ds) f) | _ => Ev.no) s := by
  show Ev.bind (E1 c (ev P c n) (.callv g as)) f s = _
  unfold E1
  simp only [bb, bbD]
  unfold Ev.bD
  refine congrArg (fun g => Ev.bind _ g s) (funext fun x => ?_)
  cases x.d <;> first | rfl | (simp only [bb, bbD] <;> rfl)
theorem z_E_callvD {g : I} {as : List I} {f : D → Ev β} : Ev.bD ((ev P c (n + 1)).e (.callv g as)) f s = Ev.bD ((ev P c n).e g) (fun x => match x with | .fn y => Ev.bind (eA (ev P c n) as) (fun ds => Ev.bD (callS c y ds) f) | _ => Ev.no) s := by
  show Ev.bD (E1 c (ev P c n) (.callv g as)) f s = _
  unfold E1
  simp only [bb, bbD]
  unfold Ev.bD
  refine congrArg (fun g => Ev.bind _ g s) (funext fun x => ?_)
  cases x.d <;> first | rfl | (simp only [bb, bbD] <;> rfl)
theorem z_E_callv0 {i : Nat} {f : R → Ev β} : Ev.bind ((ev P c (n + 1)).e (.callv0 i)) f ⟨env, S, L⟩ = match env[i]? with | some (.val (.lam x)) => Ev.bind (callS c x []) f ⟨env, S, L⟩ | some (.val (.fn x)) => Ev.bind (callS c x []) f ⟨env, S, L⟩ | _ => none := by
  show Ev.bind (E1 c (ev P c n) (.callv0 i)) f ⟨env, S, L⟩ = _
  unfold E1 Ev.bind
  dsimp only
  cases env[i]? with
  | none => rfl
  | some b =>
    cases b <;> try rfl
    rename_i d
    cases d <;> rfl
theorem z_E_callv0D {i : Nat} {f : D → Ev β} : Ev.bD ((ev P c (n + 1)).e (.callv0 i)) f ⟨env, S, L⟩ = match env[i]? with | some (.val (.lam x)) => Ev.bD (callS c x []) f ⟨env, S, L⟩ | some (.val (.fn x)) => Ev.bD (callS c x []) f ⟨env, S, L⟩ | _ => none := by
  show Ev.bD (E1 c (ev P c n) (.callv0 i)) f ⟨env, S, L⟩ = _
  unfold E1 Ev.bD Ev.bind
  dsimp only
  cases env[i]? with
  | none => rfl
  | some b =>
    cases b <;> try rfl
    rename_i d
    cases d <;> rfl
theorem z_E_lam {x : Str} {f : R → Ev β} : Ev.bind ((ev P c (n + 1)).e (.lam x)) f s = (f (.val (.lam x))) s := by
  exact nr rfl
theorem z_E_lamD {x : Str} {f : D → Ev β} : Ev.bD ((ev P c (n + 1)).e (.lam x)) f s = (f (.lam x)) s := by
  exact nr rfl
theorem z_E_bi {b : Bi} {as : List I} {f : R → Ev β} : Ev.bind ((ev P c (n + 1)).e (.bi b as)) f s = Ev.bind (ePs (ev P c n) as) (fun ps => Ev.bind (resL ps) fun ds => sto fun S => Ev.bind (Ev.of (biD S b ds)) f) s := by
  show Ev.bind (E1 c (ev P c n) (.bi b as)) f s = _
  unfold E1
  simp only [bb, bbD, sto_bind, sto_bD] <;> rfl
theorem z_E_biD {b : Bi} {as : List I} {f : D → Ev β} : Ev.bD ((ev P c (n + 1)).e (.bi b as)) f s = Ev.bind (ePs (ev P c n) as) (fun ps => Ev.bind (resL ps) fun ds => sto fun S => Ev.bD (Ev.of (biD S b ds)) f) s := by
  show Ev.bD (E1 c (ev P c n) (.bi b as)) f s = _
  unfold E1
  simp only [bb, bbD, sto_bind, sto_bD] <;> rfl
theorem z_E_isi {a : I} {ts : List String} {f : R → Ev β} : Ev.bind ((ev P c (n + 1)).e (.isi a ts)) f s = Ev.bind (eP (ev P c n) a) (fun p => Ev.bind (resP p) fun x => Ev.bind (Ev.of (tyD x)) fun t => Ev.bind (Ev.of (isiL t ts)) fun b => (f (.val (.bl b)))) s := by
  show Ev.bind (E1 c (ev P c n) (.isi a ts)) f s = _
  unfold E1
  simp only [bb, bbD, sto_bind, sto_bD] <;> rfl
theorem z_E_isiD {a : I} {ts : List String} {f : D → Ev β} : Ev.bD ((ev P c (n + 1)).e (.isi a ts)) f s = Ev.bind (eP (ev P c n) a) (fun p => Ev.bind (resP p) fun x => Ev.bind (Ev.of (tyD x)) fun t => Ev.bind (Ev.of (isiL t ts)) fun b => (f (.bl b))) s := by
  show Ev.bD (E1 c (ev P c n) (.isi a ts)) f s = _
  unfold E1
  simp only [bb, bbD, sto_bind, sto_bD] <;> rfl
theorem z_E_bits {a : I} {f : R → Ev β} : Ev.bind ((ev P c (n + 1)).e (.bits a)) f s = Ev.bD ((ev P c n).e a) (fun x => Ev.bind (Ev.of (intD x)) fun i => (f (.val (.int (intBits i : Nat))))) s := by
  show Ev.bind (E1 c (ev P c n) (.bits a)) f s = _
  unfold E1
  simp only [bb, bbD, sto_bind, sto_bD] <;> rfl
theorem z_E_bitsD {a : I} {f : D → Ev β} : Ev.bD ((ev P c (n + 1)).e (.bits a)) f s = Ev.bD ((ev P c n).e a) (fun x => Ev.bind (Ev.of (intD x)) fun i => (f (.int (intBits i : Nat)))) s := by
  show Ev.bD (E1 c (ev P c n) (.bits a)) f s = _
  unfold E1
  simp only [bb, bbD, sto_bind, sto_bD] <;> rfl
theorem z_E_idx {a b : I} {f : R → Ev β} : Ev.bind ((ev P c (n + 1)).e (.idx a b)) f s = Ev.bind (eP (ev P c n) a) (fun p => Ev.bD ((ev P c n).e b) fun k => Ev.bind (resP p) fun x => Ev.bind (Ev.of (idxD x k)) fun d => (f (.val (d)))) s := by
  show Ev.bind (E1 c (ev P c n) (.idx a b)) f s = _
  unfold E1
  simp only [bb, bbD, sto_bind, sto_bD] <;> rfl
theorem z_E_idxD {a b : I} {f : D → Ev β} : Ev.bD ((ev P c (n + 1)).e (.idx a b)) f s = Ev.bind (eP (ev P c n) a) (fun p => Ev.bD ((ev P c n).e b) fun k => Ev.bind (resP p) fun x => Ev.bind (Ev.of (idxD x k)) fun d => (f (d))) s := by
  show Ev.bD (E1 c (ev P c n) (.idx a b)) f s = _
  unfold E1
  simp only [bb, bbD, sto_bind, sto_bD] <;> rfl
theorem z_E_slc {a : I} {lo hi : Option I} {f : R → Ev β} : Ev.bind ((ev P c (n + 1)).e (.slc a lo hi)) f s = Ev.bind (eP (ev P c n) a) (fun p => Ev.bind (ePart (ev P c n) lo) fun l => Ev.bind (ePart (ev P c n) hi) fun h => Ev.bind (resP p) fun x => Ev.bind (Ev.of (slcD x l h)) f) s := by
  show Ev.bind (E1 c (ev P c n) (.slc a lo hi)) f s = _
  unfold E1
  simp only [bb, bbD, sto_bind, sto_bD] <;> rfl
theorem z_E_slcD {a : I} {lo hi : Option I} {f : D → Ev β} : Ev.bD ((ev P c (n + 1)).e (.slc a lo hi)) f s = Ev.bind (eP (ev P c n) a) (fun p => Ev.bind (ePart (ev P c n) lo) fun l => Ev.bind (ePart (ev P c n) hi) fun h => Ev.bind (resP p) fun x => Ev.bD (Ev.of (slcD x l h)) f) s := by
  show Ev.bD (E1 c (ev P c n) (.slc a lo hi)) f s = _
  unfold E1
  simp only [bb, bbD, sto_bind, sto_bD] <;> rfl
theorem z_no {f : α → Ev β} : Ev.bind (Ev.no) f s = none := nr rfl
def lenOk {β : Type} (n : Nat) (m : Ev β) : Ev β := if n ≤ line then m else Ev.no
theorem z_len {k : Nat} {m : Ev β} (h : k ≤ line) : lenOk k m s = m s := by unfold lenOk; rw [if_pos h]
theorem len_small {k : Nat} (h : Nat.ble k 16777216 = true) : k ≤ line := Nat.le_of_ble_eq_true h
theorem z_E_tup {as : List I} {f : R → Ev β} : Ev.bind ((ev P c (n + 1)).e (.tup as)) f s = Ev.bind (eA (ev P c n) as) (fun ds => lenOk ds.length ((f (.val (.tup ds))))) s := by
  show Ev.bind (E1 c (ev P c n) (.tup as)) f s = _
  unfold E1
  simp only [bb, bbD]
  refine congrArg (fun g => Ev.bind _ g s) (funext fun ds => ?_)
  by_cases h : ds.length ≤ line <;> simp only [lenOk, h, if_true, if_false] <;> rfl
theorem z_E_tupD {as : List I} {f : D → Ev β} : Ev.bD ((ev P c (n + 1)).e (.tup as)) f s = Ev.bind (eA (ev P c n) as) (fun ds => lenOk ds.length ((f (.tup ds)))) s := by
  show Ev.bD (E1 c (ev P c n) (.tup as)) f s = _
  unfold E1
  simp only [bb, bbD]
  refine congrArg (fun g => Ev.bind _ g s) (funext fun ds => ?_)
  by_cases h : ds.length ≤ line <;> simp only [lenOk, h, if_true, if_false] <;> rfl
theorem z_E_lst {as : List I} {f : R → Ev β} : Ev.bind ((ev P c (n + 1)).e (.lst as)) f s = Ev.bind (eA (ev P c n) as) (fun ds => lenOk ds.length (f (.fresh ds))) s := by
  show Ev.bind (E1 c (ev P c n) (.lst as)) f s = _
  unfold E1
  simp only [bb, bbD]
  refine congrArg (fun g => Ev.bind _ g s) (funext fun ds => ?_)
  by_cases h : ds.length ≤ line <;> simp only [lenOk, h, if_true, if_false] <;> rfl
theorem z_E_lstD {as : List I} {f : D → Ev β} : Ev.bD ((ev P c (n + 1)).e (.lst as)) f s = Ev.bind (eA (ev P c n) as) (fun ds => lenOk ds.length (f (.lst ds))) s := by
  show Ev.bD (E1 c (ev P c n) (.lst as)) f s = _
  unfold E1
  simp only [bb, bbD]
  refine congrArg (fun g => Ev.bind _ g s) (funext fun ds => ?_)
  by_cases h : ds.length ≤ line <;> simp only [lenOk, h, if_true, if_false] <;> rfl
theorem z_E_rev {a : I} {f : R → Ev β} : Ev.bind ((ev P c (n + 1)).e (.rev a)) f s = Ev.bind (eP (ev P c n) a) (fun p => Ev.bind (resP p) fun x => match x with | .lst xs => f (.fresh xs.reverse) | _ => Ev.no) s := by
  show Ev.bind (E1 c (ev P c n) (.rev a)) f s = _
  unfold E1
  simp only [bb, bbD]
  refine congrArg (fun g => Ev.bind _ g s) (funext fun x => ?_)
  refine congrArg (fun g => Ev.bind _ g) (funext fun y => ?_)
  cases y <;> rfl
theorem z_E_revD {a : I} {f : D → Ev β} : Ev.bD ((ev P c (n + 1)).e (.rev a)) f s = Ev.bind (eP (ev P c n) a) (fun p => Ev.bind (resP p) fun x => match x with | .lst xs => f (.lst xs.reverse) | _ => Ev.no) s := by
  show Ev.bD (E1 c (ev P c n) (.rev a)) f s = _
  unfold E1
  simp only [bb, bbD]
  refine congrArg (fun g => Ev.bind _ g s) (funext fun x => ?_)
  refine congrArg (fun g => Ev.bind _ g) (funext fun y => ?_)
  cases y <;> rfl
def keyK {β : Type} (m : Nat) (k : Str) (f : D → Ev β) : Ev β := fun t => match (t.S[m]?).bind fun kvs => kvs.lookup k with
  | some d => f d t
  | none => none
theorem z_keyK {m : Nat} {k : Str} {f : D → Ev β} : keyK m k f ⟨env, S, L⟩ = match (S[m]?).bind fun kvs => kvs.lookup k with
    | some d => f d ⟨env, S, L⟩
    | none => none := nr rfl
theorem z_E_key {a : I} {k : Str} {f : R → Ev β} : Ev.bind ((ev P c (n + 1)).e (.key a k)) f s = Ev.bD ((ev P c n).e a) (fun x => match x with | .cel m => keyK m k (fun d => f (.val d)) | _ => Ev.no) s := by
  show Ev.bind (E1 c (ev P c n) (.key a k)) f s = _
  unfold E1
  simp only [bb, bbD]
  unfold Ev.bD
  refine congrArg (fun g => Ev.bind _ g s) (funext fun x => ?_)
  cases x.d <;> try rfl
  rename_i m
  funext t
  unfold keyK Ev.bind
  dsimp only
  cases (t.S[m]?).bind fun kvs => kvs.lookup k <;> rfl
theorem z_E_keyD {a : I} {k : Str} {f : D → Ev β} : Ev.bD ((ev P c (n + 1)).e (.key a k)) f s = Ev.bD ((ev P c n).e a) (fun x => match x with | .cel m => keyK m k (f) | _ => Ev.no) s := by
  show Ev.bD (E1 c (ev P c n) (.key a k)) f s = _
  unfold E1
  simp only [bb, bbD]
  unfold Ev.bD
  refine congrArg (fun g => Ev.bind _ g s) (funext fun x => ?_)
  cases x.d <;> try rfl
  rename_i m
  funext t
  unfold keyK Ev.bind
  dsimp only
  cases (t.S[m]?).bind fun kvs => kvs.lookup k <;> rfl
def appK {β : Type} (i : Nat) (d : D) (f : D → Ev β) : Ev β := fun t => match t.env[i]? with
  | some (.own xs) => if xs.length < line then f .non { t with env := t.env.set i (.own (xs ++ [d])) } else none
  | _ => none
theorem z_appK {i : Nat} {d : D} {f : D → Ev β} : appK i d f ⟨env, S, L⟩ = match env[i]? with
    | some (.own xs) => if xs.length < line then f .non ⟨env.set i (.own (xs ++ [d])), S, L⟩ else none
    | _ => none := nr rfl
theorem z_E_app {i : Nat} {a : I} {f : R → Ev β} : Ev.bind ((ev P c (n + 1)).e (.app i a)) f s = Ev.bind (getO i) (fun _ => Ev.bD ((ev P c n).e a) fun d => appK i d (fun d => f (.val d))) s := by
  show Ev.bind (E1 c (ev P c n) (.app i a)) f s = _
  unfold E1
  simp only [bb, bbD]
  unfold Ev.bD
  refine congrArg (fun g => Ev.bind _ g s) (funext fun _ => ?_)
  refine congrArg (fun g => Ev.bind _ g) (funext fun x => ?_)
  funext t
  unfold appK Ev.bind
  dsimp only
  cases t.env[i]? with
  | none => rfl
  | some b =>
    cases b <;> try rfl
    rename_i xs
    by_cases h : xs.length < line <;> simp only [h, if_true, if_false] <;> rfl
theorem z_E_appD {i : Nat} {a : I} {f : D → Ev β} : Ev.bD ((ev P c (n + 1)).e (.app i a)) f s = Ev.bind (getO i) (fun _ => Ev.bD ((ev P c n).e a) fun d => appK i d (f)) s := by
  show Ev.bD (E1 c (ev P c n) (.app i a)) f s = _
  unfold E1
  simp only [bb, bbD]
  unfold Ev.bD
  refine congrArg (fun g => Ev.bind _ g s) (funext fun _ => ?_)
  refine congrArg (fun g => Ev.bind _ g) (funext fun x => ?_)
  funext t
  unfold appK Ev.bind
  dsimp only
  cases t.env[i]? with
  | none => rfl
  | some b =>
    cases b <;> try rfl
    rename_i xs
    by_cases h : xs.length < line <;> simp only [h, if_true, if_false] <;> rfl
def dicK {β : Type} (m : Nat) (ks : List Str) (ds : List D) (f : D → Ev β) : Ev β := fun t => match t.S[m]? with
  | some [] => if ks.length = ds.length ∧ ks.Nodup ∧ ks.length ≤ 15 then f (.cel m) { t with S := t.S.set m (ks.zip ds) } else none
  | _ => none
theorem z_dicK {m : Nat} {ks : List Str} {ds : List D} {f : D → Ev β} : dicK m ks ds f ⟨env, S, L⟩ = match S[m]? with
    | some [] => if ks.length = ds.length ∧ ks.Nodup ∧ ks.length ≤ 15 then f (.cel m) ⟨env, S.set m (ks.zip ds), L⟩ else none
    | _ => none := nr rfl
theorem z_new {f : Nat → Ev β} : Ev.bind newCell f ⟨env, S, L⟩ = f S.length ⟨env, S ++ [[]], L⟩ := nr rfl
theorem z_E_dic0 {as : List I} {f : R → Ev β} : Ev.bind ((ev P c (n + 1)).e (.dic [] as)) f s = Ev.bind newCell (fun m => f (.val (.cel m))) s := by
  show Ev.bind (E1 c (ev P c n) (.dic [] as)) f s = _
  unfold E1
  simp only [bb, bbD] <;> rfl
theorem z_E_dic {k : Str} {ks : List Str} {as : List I} {f : R → Ev β} : Ev.bind ((ev P c (n + 1)).e (.dic (k :: ks) as)) f s = Ev.bind newCell (fun m => Ev.bind (eA (ev P c n) as) fun ds => dicK m (k :: ks) ds (fun d => f (.val d))) s := by
  show Ev.bind (E1 c (ev P c n) (.dic (k :: ks) as)) f s = _
  unfold E1
  simp only [bb, bbD]
  refine congrArg (fun g => Ev.bind _ g s) (funext fun m => ?_)
  refine congrArg (fun g => Ev.bind _ g) (funext fun ds => ?_)
  funext t
  unfold dicK Ev.bind
  dsimp only
  cases t.S[m]? with
  | none => rfl
  | some b =>
    cases b with
    | cons _ _ => rfl
    | nil =>
      by_cases h : (k :: ks).length = ds.length ∧ (k :: ks).Nodup ∧ (k :: ks).length ≤ 15
      · simp only [if_pos h] <;> rfl
      · simp only [if_neg h] <;> rfl
theorem z_E_dic0D {as : List I} {f : D → Ev β} : Ev.bD ((ev P c (n + 1)).e (.dic [] as)) f s = Ev.bind newCell (fun m => f (.cel m)) s := by
  show Ev.bD (E1 c (ev P c n) (.dic [] as)) f s = _
  unfold E1
  simp only [bb, bbD] <;> rfl
theorem z_E_dicD {k : Str} {ks : List Str} {as : List I} {f : D → Ev β} : Ev.bD ((ev P c (n + 1)).e (.dic (k :: ks) as)) f s = Ev.bind newCell (fun m => Ev.bind (eA (ev P c n) as) fun ds => dicK m (k :: ks) ds (f)) s := by
  show Ev.bD (E1 c (ev P c n) (.dic (k :: ks) as)) f s = _
  unfold E1
  simp only [bb, bbD]
  refine congrArg (fun g => Ev.bind _ g s) (funext fun m => ?_)
  refine congrArg (fun g => Ev.bind _ g) (funext fun ds => ?_)
  funext t
  unfold dicK Ev.bD Ev.bind
  dsimp only
  cases t.S[m]? with
  | none => rfl
  | some b =>
    cases b with
    | cons _ _ => rfl
    | nil =>
      by_cases h : (k :: ks).length = ds.length ∧ (k :: ks).Nodup ∧ (k :: ks).length ≤ 15
      · simp only [if_pos h] <;> rfl
      · simp only [if_neg h] <;> rfl
/-! ### tests -/
theorem z_T_nt {a : I} {f : Bool → Ev β} : Ev.bind ((ev P c (n + 1)).t (.nt a)) f s = Ev.bind ((ev P c n).t a) (fun b => f (!b)) s := by
  show Ev.bind (T1 (ev P c n) (.nt a)) f s = _
  unfold T1
  simp only [bb, bbD] <;> rfl
theorem z_T_and {a b : I} {f : Bool → Ev β} : Ev.bind ((ev P c (n + 1)).t (.and a b)) f s = Ev.bind ((ev P c n).t a) (fun k => match k with | true => Ev.bind ((ev P c n).t b) f | false => f false) s := by
  show Ev.bind (T1 (ev P c n) (.and a b)) f s = _
  unfold T1
  simp only [bb, bbD]
  refine congrArg (fun g => Ev.bind _ g s) (funext fun k => ?_)
  cases k <;> rfl
theorem z_T_or {a b : I} {f : Bool → Ev β} : Ev.bind ((ev P c (n + 1)).t (.or a b)) f s = Ev.bind ((ev P c n).t a) (fun k => match k with | true => f true | false => Ev.bind ((ev P c n).t b) f) s := by
  show Ev.bind (T1 (ev P c n) (.or a b)) f s = _
  unfold T1
  simp only [bb, bbD]
  refine congrArg (fun g => Ev.bind _ g s) (funext fun k => ?_)
  cases k <;> rfl
theorem z_T_cmp {o : CmpOp} {a b : I} {f : Bool → Ev β} : Ev.bind ((ev P c (n + 1)).t (.cmp o a b)) f s = Ev.bind (eP (ev P c n) a) (fun p => Ev.bind (eP (ev P c n) b) fun q => Ev.bind (resP p) fun x => Ev.bind (resP q) fun y => sto fun S => Ev.bind (Ev.of (cmpop S o x y)) f) s := by
  show Ev.bind (T1 (ev P c n) (.cmp o a b)) f s = _
  unfold T1
  simp only [bb, bbD] <;> rfl
theorem z_T_chn {o o2 : CmpOp} {a b d : I} {f : Bool → Ev β} : Ev.bind ((ev P c (n + 1)).t (.chn o o2 a b d)) f s = Ev.bD ((ev P c n).e a) (fun x => Ev.bD ((ev P c n).e b) fun y => sto fun S => Ev.bind (Ev.of (cmpop S o x y)) fun k => match k with | true => Ev.bD ((ev P c n).e d) (fun z => sto fun S => Ev.bind (Ev.of (cmpop S o2 y z)) f) | false => f false) s := by
  show Ev.bind (T1 (ev P c n) (.chn o o2 a b d)) f s = _
  unfold T1
  simp only [bb, bbD, sto_bind]
  unfold Ev.bD
  refine congrArg (fun g => Ev.bind _ g s) (funext fun x => ?_)
  refine congrArg (fun g => Ev.bind _ g) (funext fun y => ?_)
  refine congrArg sto (funext fun S => ?_)
  refine congrArg (fun g => Ev.bind _ g) (funext fun k => ?_)
  cases k
  · rfl
  · simp only [if_true, bb, sto_bind] <;> rfl
theorem z_T_cst {d : D} {f : Bool → Ev β} : Ev.bind ((ev P c (n + 1)).t (.cst d)) f s = Ev.bind (eP (ev P c n) (.cst d)) (fun p => Ev.bind (resP p) fun x => sto fun S => Ev.bind (Ev.of (truD S x)) f) s := by
  show Ev.bind (T1 (ev P c n) (.cst d)) f s = _
  unfold T1
  simp only [bb, bbD] <;> rfl
theorem z_T_glb {x : Str} {d : D} {f : Bool → Ev β} : Ev.bind ((ev P c (n + 1)).t (.glb x d)) f s = Ev.bind (eP (ev P c n) (.glb x d)) (fun p => Ev.bind (resP p) fun x => sto fun S => Ev.bind (Ev.of (truD S x)) f) s := by
  show Ev.bind (T1 (ev P c n) (.glb x d)) f s = _
  unfold T1
  simp only [bb, bbD] <;> rfl
theorem z_T_var {i : Nat} {f : Bool → Ev β} : Ev.bind ((ev P c (n + 1)).t (.var i)) f s = Ev.bind (eP (ev P c n) (.var i)) (fun p => Ev.bind (resP p) fun x => sto fun S => Ev.bind (Ev.of (truD S x)) f) s := by
  show Ev.bind (T1 (ev P c n) (.var i)) f s = _
  unfold T1
  simp only [bb, bbD] <;> rfl
theorem z_T_bin {o : Operator} {a b : I} {f : Bool → Ev β} : Ev.bind ((ev P c (n + 1)).t (.bin o a b)) f s = Ev.bind (eP (ev P c n) (.bin o a b)) (fun p => Ev.bind (resP p) fun x => sto fun S => Ev.bind (Ev.of (truD S x)) f) s := by
  show Ev.bind (T1 (ev P c n) (.bin o a b)) f s = _
  unfold T1
  simp only [bb, bbD] <;> rfl
theorem z_T_neg {a : I} {f : Bool → Ev β} : Ev.bind ((ev P c (n + 1)).t (.neg a)) f s = Ev.bind (eP (ev P c n) (.neg a)) (fun p => Ev.bind (resP p) fun x => sto fun S => Ev.bind (Ev.of (truD S x)) f) s := by
  show Ev.bind (T1 (ev P c n) (.neg a)) f s = _
  unfold T1
  simp only [bb, bbD] <;> rfl
theorem z_T_ite {t a b : I} {f : Bool → Ev β} : Ev.bind ((ev P c (n + 1)).t (.ite t a b)) f s = Ev.bind (eP (ev P c n) (.ite t a b)) (fun p => Ev.bind (resP p) fun x => sto fun S => Ev.bind (Ev.of (truD S x)) f) s := by
  show Ev.bind (T1 (ev P c n) (.ite t a b)) f s = _
  unfold T1
  simp only [bb, bbD] <;> rfl
theorem z_T_call {g : Str} {as : List I} {f : Bool → Ev β} : Ev.bind ((ev P c (n + 1)).t (.call g as)) f s = Ev.bind (eP (ev P c n) (.call g as)) (fun p => Ev.bind (resP p) fun x => sto fun S => Ev.bind (Ev.of (truD S x)) f) s := by
  show Ev.bind (T1 (ev P c n) (.call g as)) f s = _
  unfold T1
  simp only [bb, bbD] <;> rfl
theorem z_T_callv {g : I} {as : List I} {f : Bool → Ev β} : Ev.bind ((ev P c (n + 1)).t (.callv g as)) f s = Ev.bind (eP (ev P c n) (.callv g as)) (fun p => Ev.bind (resP p) fun x => sto fun S => Ev.bind (Ev.of (truD S x)) f) s := by
  show Ev.bind (T1 (ev P c n) (.callv g as)) f s = _
  unfold T1
  simp only [bb, bbD] <;> rfl
theorem z_T_callc {g : Str} {as : List I} {cs : List Nat} {f : Bool → Ev β} : Ev.bind ((ev P c (n + 1)).t (.callc g as cs)) f s = Ev.bind (eP (ev P c n) (.callc g as cs)) (fun p => Ev.bind (resP p) fun x => sto fun S => Ev.bind (Ev.of (truD S x)) f) s := by
  show Ev.bind (T1 (ev P c n) (.callc g as cs)) f s = _
  unfold T1
  simp only [bb, bbD] <;> rfl
theorem z_T_callv0 {i : Nat} {f : Bool → Ev β} : Ev.bind ((ev P c (n + 1)).t (.callv0 i)) f s = Ev.bind (eP (ev P c n) (.callv0 i)) (fun p => Ev.bind (resP p) fun x => sto fun S => Ev.bind (Ev.of (truD S x)) f) s := by
  show Ev.bind (T1 (ev P c n) (.callv0 i)) f s = _
  unfold T1
  simp only [bb, bbD] <;> rfl
theorem z_T_bi {b : Bi} {as : List I} {f : Bool → Ev β} : Ev.bind ((ev P c (n + 1)).t (.bi b as)) f s = Ev.bind (eP (ev P c n) (.bi b as)) (fun p => Ev.bind (resP p) fun x => sto fun S => Ev.bind (Ev.of (truD S x)) f) s := by
  show Ev.bind (T1 (ev P c n) (.bi b as)) f s = _
  unfold T1
  simp only [bb, bbD] <;> rfl
theorem z_T_isi {a : I} {ts : List String} {f : Bool → Ev β} : Ev.bind ((ev P c (n + 1)).t (.isi a ts)) f s = Ev.bind (eP (ev P c n) (.isi a ts)) (fun p => Ev.bind (resP p) fun x => sto fun S => Ev.bind (Ev.of (truD S x)) f) s := by
  show Ev.bind (T1 (ev P c n) (.isi a ts)) f s = _
  unfold T1
  simp only [bb, bbD] <;> rfl
theorem z_T_bits {a : I} {f : Bool → Ev β} : Ev.bind ((ev P c (n + 1)).t (.bits a)) f s = Ev.bind (eP (ev P c n) (.bits a)) (fun p => Ev.bind (resP p) fun x => sto fun S => Ev.bind (Ev.of (truD S x)) f) s := by
  show Ev.bind (T1 (ev P c n) (.bits a)) f s = _
  unfold T1
  simp only [bb, bbD] <;> rfl
theorem z_T_idx {a b : I} {f : Bool → Ev β} : Ev.bind ((ev P c (n + 1)).t (.idx a b)) f s = Ev.bind (eP (ev P c n) (.idx a b)) (fun p => Ev.bind (resP p) fun x => sto fun S => Ev.bind (Ev.of (truD S x)) f) s := by
  show Ev.bind (T1 (ev P c n) (.idx a b)) f s = _
  unfold T1
  simp only [bb, bbD] <;> rfl
theorem z_T_key {a : I} {k : Str} {f : Bool → Ev β} : Ev.bind ((ev P c (n + 1)).t (.key a k)) f s = Ev.bind (eP (ev P c n) (.key a k)) (fun p => Ev.bind (resP p) fun x => sto fun S => Ev.bind (Ev.of (truD S x)) f) s := by
  show Ev.bind (T1 (ev P c n) (.key a k)) f s = _
  unfold T1
  simp only [bb, bbD] <;> rfl
theorem z_T_slc {a : I} {lo hi : Option I} {f : Bool → Ev β} : Ev.bind ((ev P c (n + 1)).t (.slc a lo hi)) f s = Ev.bind (eP (ev P c n) (.slc a lo hi)) (fun p => Ev.bind (resP p) fun x => sto fun S => Ev.bind (Ev.of (truD S x)) f) s := by
  show Ev.bind (T1 (ev P c n) (.slc a lo hi)) f s = _
  unfold T1
  simp only [bb, bbD] <;> rfl
theorem z_T_rev {a : I} {f : Bool → Ev β} : Ev.bind ((ev P c (n + 1)).t (.rev a)) f s = Ev.bind (eP (ev P c n) (.rev a)) (fun p => Ev.bind (resP p) fun x => sto fun S => Ev.bind (Ev.of (truD S x)) f) s := by
  show Ev.bind (T1 (ev P c n) (.rev a)) f s = _
  unfold T1
  simp only [bb, bbD] <;> rfl
theorem z_T_tup {as : List I} {f : Bool → Ev β} : Ev.bind ((ev P c (n + 1)).t (.tup as)) f s = Ev.bind (eP (ev P c n) (.tup as)) (fun p => Ev.bind (resP p) fun x => sto fun S => Ev.bind (Ev.of (truD S x)) f) s := by
  show Ev.bind (T1 (ev P c n) (.tup as)) f s = _
  unfold T1
  simp only [bb, bbD] <;> rfl
theorem z_T_lst {as : List I} {f : Bool → Ev β} : Ev.bind ((ev P c (n + 1)).t (.lst as)) f s = Ev.bind (eP (ev P c n) (.lst as)) (fun p => Ev.bind (resP p) fun x => sto fun S => Ev.bind (Ev.of (truD S x)) f) s := by
  show Ev.bind (T1 (ev P c n) (.lst as)) f s = _
  unfold T1
  simp only [bb, bbD] <;> rfl
theorem z_T_lc {e : I} {t : List Nat} {one : Bool} {it : I} {ifs : List I} {ow : List Nat} {f : Bool → Ev β} : Ev.bind ((ev P c (n + 1)).t (.lc e t one it ifs ow)) f s = Ev.bind (eP (ev P c n) (.lc e t one it ifs ow)) (fun p => Ev.bind (resP p) fun x => sto fun S => Ev.bind (Ev.of (truD S x)) f) s := by
  show Ev.bind (T1 (ev P c n) (.lc e t one it ifs ow)) f s = _
  unfold T1
  simp only [bb, bbD] <;> rfl
theorem z_part0 {f : Option Int → Ev β} : Ev.bind (ePart r none) f s = f none s := nr rfl
theorem z_part1 {a : I} {f : Option Int → Ev β} : Ev.bind (ePart r (some a)) f s = Ev.bD (r.e a) (fun x => Ev.bind (Ev.of (intD x)) fun i => f (some i)) s := by
  unfold ePart
  simp only [bb] <;> rfl
/-! ### statements -/
theorem z_S_ex {e : I} {f : Fl → Ev β} : Ev.bind ((ev P c (n + 1)).s (.ex e)) f s = Ev.bind ((ev P c n).e e) (fun _ => f .nx) s := by
  show Ev.bind (S1 P (ev P c n) (.ex e)) f s = _
  unfold S1
  simp only [bb, bbD] <;> rfl
theorem z_S_set {i : Nat} {e : I} {f : Fl → Ev β} : Ev.bind ((ev P c (n + 1)).s (.set (.nm i) e)) f s = Ev.bind ((ev P c n).e e) (fun x => Ev.bind (putV i x) fun _ => f .nx) s := by
  show Ev.bind (S1 P (ev P c n) (.set (.nm i) e)) f s = _
  unfold S1
  simp only [bb, bbD] <;> rfl
theorem z_S_setk {o : I} {k : Str} {e : I} {f : Fl → Ev β} : Ev.bind ((ev P c (n + 1)).s (.set (.ky o k) e)) f s = Ev.bD ((ev P c n).e e) (fun x => Ev.bind (putTt (ev P c n) (.ky o k) (.val x)) fun _ => f .nx) s := by
  show Ev.bind (S1 P (ev P c n) (.set (.ky o k) e)) f s = _
  unfold S1
  simp only [bb, bbD] <;> rfl
theorem z_S_seti {i : Nat} {k : I} {e : I} {f : Fl → Ev β} : Ev.bind ((ev P c (n + 1)).s (.set (.ix i k) e)) f s = Ev.bD ((ev P c n).e e) (fun x => Ev.bind (putTt (ev P c n) (.ix i k) (.val x)) fun _ => f .nx) s := by
  show Ev.bind (S1 P (ev P c n) (.set (.ix i k) e)) f s = _
  unfold S1
  simp only [bb, bbD] <;> rfl
theorem z_putnm {i : Nat} {x : R} {f : Unit → Ev β} : Ev.bind (putTt r (.nm i) x) f s = Ev.bind (putV i x) f s := nr rfl
def kyK {β : Type} (m : Nat) (k : Str) (d : D) (f : Unit → Ev β) : Ev β := fun t => match t.S[m]? with
  | some kvs => if kvs.length < line then f () { t with S := t.S.set m (kvPut kvs k d) } else none
  | none => none
theorem z_kyK {m : Nat} {k : Str} {d : D} {f : Unit → Ev β} : kyK m k d f ⟨env, S, L⟩ = match S[m]? with
    | some kvs => if kvs.length < line then f () ⟨env, S.set m (kvPut kvs k d), L⟩ else none
    | none => none := nr rfl
theorem z_putky {o : I} {k : Str} {x : R} {f : Unit → Ev β} : Ev.bind (putTt r (.ky o k) x) f s = Ev.bD (r.e o) (fun y => match y with | .cel m => kyK m k x.d f | _ => Ev.no) s := by
  unfold putTt
  simp only [bb]
  unfold Ev.bD
  refine congrArg (fun g => Ev.bind _ g s) (funext fun y => ?_)
  cases y.d <;> try rfl
  rename_i m
  funext t
  unfold kyK Ev.bind
  dsimp only
  cases t.S[m]? with
  | none => rfl
  | some kvs => by_cases h : kvs.length < line <;> simp only [h, if_true, if_false] <;> rfl
def ixK {β : Type} (i : Nat) (k : Int) (d : D) (f : Unit → Ev β) : Ev β := fun t => match t.env[i]? with
  | some (.own xs) => (match ixD xs.length k with
    | some j => f () { t with env := t.env.set i (.own (xs.set j d)) }
    | none => none)
  | _ => none
theorem z_ixK {i : Nat} {k : Int} {d : D} {f : Unit → Ev β} : ixK i k d f ⟨env, S, L⟩ = match env[i]? with
    | some (.own xs) => (match ixD xs.length k with
      | some j => f () ⟨env.set i (.own (xs.set j d)), S, L⟩
      | none => none)
    | _ => none := nr rfl
theorem z_putix {i : Nat} {k : I} {x : R} {f : Unit → Ev β} : Ev.bind (putTt r (.ix i k) x) f s = Ev.bind (getO i) (fun _ => Ev.bD (r.e k) fun y => Ev.bind (Ev.of (intD y)) fun k => ixK i k x.d f) s := by
  unfold putTt
  simp only [bb]
  unfold Ev.bD
  refine congrArg (fun g => Ev.bind _ g s) (funext fun _ => ?_)
  refine congrArg (fun g => Ev.bind _ g) (funext fun y => ?_)
  refine congrArg (fun g => Ev.bind _ g) (funext fun k => ?_)
  funext t
  unfold ixK Ev.bind
  dsimp only
  cases t.env[i]? with
  | none => rfl
  | some b =>
    cases b <;> try rfl
    rename_i xs
    dsimp only
    cases ixD xs.length k <;> rfl
theorem z_dv {d : D} : (R.val d).d = d := nr rfl
theorem z_df {d : List D} : (R.fresh d).d = .lst d := nr rfl
theorem z_S_setT {ts : List Tt} {e : I} {f : Fl → Ev β} : Ev.bind ((ev P c (n + 1)).s (.setT ts e)) f s = Ev.bD ((ev P c n).e e) (fun x => match x with | .tup ds => if ds.length = ts.length then Ev.bind (putTs (ev P c n) ts ds) (fun _ => f .nx) else Ev.no | .lst ds => if ds.length = ts.length then Ev.bind (putTs (ev P c n) ts ds) (fun _ => f .nx) else Ev.no | _ => Ev.no) s := by
  show Ev.bind (S1 P (ev P c n) (.setT ts e)) f s = _
  unfold S1
  simp only [bb, bbD]
  unfold Ev.bD
  refine congrArg (fun g => Ev.bind _ g s) (funext fun x => ?_)
  cases x.d <;> try rfl
  all_goals (rename_i ds; by_cases h : ds.length = ts.length <;> simp only [h, if_true, if_false, bb] <;> rfl)
theorem z_Ts_nil {f : Unit → Ev β} : Ev.bind (putTs r [] []) f s = f () s := nr rfl
theorem z_Ts_cons {t : Tt} {ts : List Tt} {d : D} {ds : List D} {f : Unit → Ev β} : Ev.bind (putTs r (t :: ts) (d :: ds)) f s = Ev.bind (putTt r t (.val d)) (fun _ => Ev.bind (putTs r ts ds) f) s := by
  show Ev.bind (Ev.bind (putTt r t (.val d)) fun _ => putTs r ts ds) f s = _
  rw [bb]
theorem z_S_par {is : List Nat} {es : List I} {f : Fl → Ev β} : Ev.bind ((ev P c (n + 1)).s (.par is es)) f s = Ev.bind (eA (ev P c n) es) (fun ds => if ds.length = is.length then Ev.bind (putPar is ds) (fun _ => f .nx) else Ev.no) s := by
  show Ev.bind (S1 P (ev P c n) (.par is es)) f s = _
  unfold S1
  simp only [bb, bbD]
  refine congrArg (fun g => Ev.bind _ g s) (funext fun ds => ?_)
  by_cases h : ds.length = is.length <;> simp only [h, if_true, if_false, bb] <;> rfl
theorem z_Par_nil {f : Unit → Ev β} : Ev.bind (putPar [] []) f s = f () s := nr rfl
theorem z_Par_cons {i : Nat} {is : List Nat} {d : D} {ds : List D} {f : Unit → Ev β} : Ev.bind (putPar (i :: is) (d :: ds)) f s = Ev.bind (putPar is ds) (fun _ => Ev.bind (putV i (.val d)) f) s := by
  show Ev.bind (Ev.bind (putPar is ds) fun _ => putV i (.val d)) f s = _
  rw [bb]
theorem z_S_augAdd {i : Nat} {e : I} {f : Fl → Ev β} : Ev.bind ((ev P c (n + 1)).s (.aug i .Add e)) f s = Ev.bind (getP i) (fun _ => Ev.bD ((ev P c n).e e) fun y => Ev.bind (resP (.var i)) fun x => match x, y with | .int a, .int b => Ev.bind (putV i (.val (.int (a + b)))) (fun _ => f .nx) | _, _ => Ev.no) s := by
  show Ev.bind (S1 P (ev P c n) (.aug i .Add e)) f s = _
  unfold S1
  simp only [bb, bbD]
  unfold Ev.bD
  refine congrArg (fun g => Ev.bind _ g s) (funext fun _ => ?_)
  refine congrArg (fun g => Ev.bind _ g) (funext fun y => ?_)
  refine congrArg (fun g => Ev.bind _ g) (funext fun x => ?_)
  cases x <;> try rfl
  cases y.d <;> first | rfl | (simp only [bb] <;> rfl)
theorem z_S_augSub {i : Nat} {e : I} {f : Fl → Ev β} : Ev.bind ((ev P c (n + 1)).s (.aug i .Sub e)) f s = Ev.bind (getP i) (fun _ => Ev.bD ((ev P c n).e e) fun y => Ev.bind (resP (.var i)) fun x => match x, y with | .int a, .int b => Ev.bind (putV i (.val (.int (a - b)))) (fun _ => f .nx) | _, _ => Ev.no) s := by
  show Ev.bind (S1 P (ev P c n) (.aug i .Sub e)) f s = _
  unfold S1
  simp only [bb, bbD]
  unfold Ev.bD
  refine congrArg (fun g => Ev.bind _ g s) (funext fun _ => ?_)
  refine congrArg (fun g => Ev.bind _ g) (funext fun y => ?_)
  refine congrArg (fun g => Ev.bind _ g) (funext fun x => ?_)
  cases x <;> try rfl
  cases y.d <;> first | rfl | (simp only [bb] <;> rfl)
theorem z_S_iff {t : I} {a b : List J} {f : Fl → Ev β} : Ev.bind ((ev P c (n + 1)).s (.iff t a b)) f s = Ev.bind ((ev P c n).t t) (fun k => match k with | true => Ev.bind (sL (ev P c n) a) f | false => Ev.bind (sL (ev P c n) b) f) s := by
  show Ev.bind (S1 P (ev P c n) (.iff t a b)) f s = _
  unfold S1
  simp only [bb, bbD]
  refine congrArg (fun g => Ev.bind _ g s) (funext fun k => ?_)
  cases k <;> rfl
theorem z_S_for {t : List Nat} {one : Bool} {it : I} {body : List J} {f : Fl → Ev β} : Ev.bind ((ev P c (n + 1)).s (.for_ t one it body)) f s = Ev.bind (eI (ev P c n) it) (fun p => Ev.bind (lending p.2 (forL t one (sL (ev P c n) body) p.1)) f) s := by
  show Ev.bind (S1 P (ev P c n) (.for_ t one it body)) f s = _
  unfold S1
  simp only [bb, bbD] <;> rfl
theorem z_S_whl {t : I} {body : List J} {f : Fl → Ev β} : Ev.bind ((ev P c (n + 1)).s (.whl t body)) f s = Ev.bind (whlL ((ev P c n).t t) (sL (ev P c n) body) P.wf) f s := by
  show Ev.bind (S1 P (ev P c n) (.whl t body)) f s = _
  unfold S1
  simp only [bb, bbD] <;> rfl
theorem z_S_retN  {f : Fl → Ev β} : Ev.bind ((ev P c (n + 1)).s (.retN)) f s = f (.rt (.val .non)) s := by
  show Ev.bind (S1 P (ev P c n) (.retN)) f s = _
  unfold S1
  simp only [bb, bbD] <;> rfl
theorem z_S_pass  {f : Fl → Ev β} : Ev.bind ((ev P c (n + 1)).s (.pass)) f s = f .nx s := by
  show Ev.bind (S1 P (ev P c n) (.pass)) f s = _
  unfold S1
  simp only [bb, bbD] <;> rfl
theorem z_S_brk  {f : Fl → Ev β} : Ev.bind ((ev P c (n + 1)).s (.brk)) f s = f .bk s := by
  show Ev.bind (S1 P (ev P c n) (.brk)) f s = _
  unfold S1
  simp only [bb, bbD] <;> rfl
theorem z_S_cnt  {f : Fl → Ev β} : Ev.bind ((ev P c (n + 1)).s (.cnt)) f s = f .ct s := by
  show Ev.bind (S1 P (ev P c n) (.cnt)) f s = _
  unfold S1
  simp only [bb, bbD] <;> rfl
theorem z_S_ret {e : I} {f : Fl → Ev β} : Ev.bind ((ev P c (n + 1)).s (.ret e)) f s = Ev.bind (retV (ev P c n) e) (fun x => f (.rt x)) s := by
  show Ev.bind (S1 P (ev P c n) (.ret e)) f s = _
  unfold S1
  simp only [bb, bbD] <;> rfl
theorem z_R_var {i : Nat} {f : R → Ev β} : Ev.bind (retV r (.var i)) f ⟨env, S, L⟩ = match env[i]? with
    | some (.own xs) => f (.fresh xs) ⟨env.set i .un, S, L⟩
    | some (.val d) => f (.val d) ⟨env, S, L⟩
    | _ => none := by
  unfold Ev.bind retV
  dsimp only
  cases env[i]? with
  | none => rfl
  | some b => cases b <;> rfl
theorem z_R_cst {d : D} {f : R → Ev β} : Ev.bind (retV r (.cst d)) f s = Ev.bind (r.e (.cst d)) f s := nr rfl
theorem z_R_glb {x : Str} {d : D} {f : R → Ev β} : Ev.bind (retV r (.glb x d)) f s = Ev.bind (r.e (.glb x d)) f s := nr rfl
theorem z_R_bin {o : Operator} {a b : I} {f : R → Ev β} : Ev.bind (retV r (.bin o a b)) f s = Ev.bind (r.e (.bin o a b)) f s := nr rfl
theorem z_R_neg {a : I} {f : R → Ev β} : Ev.bind (retV r (.neg a)) f s = Ev.bind (r.e (.neg a)) f s := nr rfl
theorem z_R_nt {a : I} {f : R → Ev β} : Ev.bind (retV r (.nt a)) f s = Ev.bind (r.e (.nt a)) f s := nr rfl
theorem z_R_and {a b : I} {f : R → Ev β} : Ev.bind (retV r (.and a b)) f s = Ev.bind (r.e (.and a b)) f s := nr rfl
theorem z_R_or {a b : I} {f : R → Ev β} : Ev.bind (retV r (.or a b)) f s = Ev.bind (r.e (.or a b)) f s := nr rfl
theorem z_R_cmp {o : CmpOp} {a b : I} {f : R → Ev β} : Ev.bind (retV r (.cmp o a b)) f s = Ev.bind (r.e (.cmp o a b)) f s := nr rfl
theorem z_R_chn {o o2 : CmpOp} {a b d : I} {f : R → Ev β} : Ev.bind (retV r (.chn o o2 a b d)) f s = Ev.bind (r.e (.chn o o2 a b d)) f s := nr rfl
theorem z_R_ite {t a b : I} {f : R → Ev β} : Ev.bind (retV r (.ite t a b)) f s = Ev.bind (r.e (.ite t a b)) f s := nr rfl
theorem z_R_call {g : Str} {as : List I} {f : R → Ev β} : Ev.bind (retV r (.call g as)) f s = Ev.bind (r.e (.call g as)) f s := nr rfl
theorem z_R_callv {g : I} {as : List I} {f : R → Ev β} : Ev.bind (retV r (.callv g as)) f s = Ev.bind (r.e (.callv g as)) f s := nr rfl
theorem z_R_callc {g : Str} {as : List I} {cs : List Nat} {f : R → Ev β} : Ev.bind (retV r (.callc g as cs)) f s = Ev.bind (r.e (.callc g as cs)) f s := nr rfl
theorem z_R_callv0 {i : Nat} {f : R → Ev β} : Ev.bind (retV r (.callv0 i)) f s = Ev.bind (r.e (.callv0 i)) f s := nr rfl
theorem z_R_lam {x : Str} {f : R → Ev β} : Ev.bind (retV r (.lam x)) f s = Ev.bind (r.e (.lam x)) f s := nr rfl
theorem z_R_bi {b : Bi} {as : List I} {f : R → Ev β} : Ev.bind (retV r (.bi b as)) f s = Ev.bind (r.e (.bi b as)) f s := nr rfl
theorem z_R_isi {a : I} {ts : List String} {f : R → Ev β} : Ev.bind (retV r (.isi a ts)) f s = Ev.bind (r.e (.isi a ts)) f s := nr rfl
theorem z_R_bits {a : I} {f : R → Ev β} : Ev.bind (retV r (.bits a)) f s = Ev.bind (r.e (.bits a)) f s := nr rfl
theorem z_R_app {i : Nat} {a : I} {f : R → Ev β} : Ev.bind (retV r (.app i a)) f s = Ev.bind (r.e (.app i a)) f s := nr rfl
theorem z_R_pop {i : Nat} {a : I} {f : R → Ev β} : Ev.bind (retV r (.pop i a)) f s = Ev.bind (r.e (.pop i a)) f s := nr rfl
theorem z_R_idx {a b : I} {f : R → Ev β} : Ev.bind (retV r (.idx a b)) f s = Ev.bind (r.e (.idx a b)) f s := nr rfl
theorem z_R_key {a : I} {k : Str} {f : R → Ev β} : Ev.bind (retV r (.key a k)) f s = Ev.bind (r.e (.key a k)) f s := nr rfl
theorem z_R_slc {a : I} {lo hi : Option I} {f : R → Ev β} : Ev.bind (retV r (.slc a lo hi)) f s = Ev.bind (r.e (.slc a lo hi)) f s := nr rfl
theorem z_R_rev {a : I} {f : R → Ev β} : Ev.bind (retV r (.rev a)) f s = Ev.bind (r.e (.rev a)) f s := nr rfl
theorem z_R_tup {as : List I} {f : R → Ev β} : Ev.bind (retV r (.tup as)) f s = Ev.bind (r.e (.tup as)) f s := nr rfl
theorem z_R_lst {as : List I} {f : R → Ev β} : Ev.bind (retV r (.lst as)) f s = Ev.bind (r.e (.lst as)) f s := nr rfl
theorem z_R_dic {ks : List Str} {as : List I} {f : R → Ev β} : Ev.bind (retV r (.dic ks as)) f s = Ev.bind (r.e (.dic ks as)) f s := nr rfl
theorem z_R_lc {e : I} {t : List Nat} {one : Bool} {it : I} {ifs : List I} {ow : List Nat} {f : R → Ev β} : Ev.bind (retV r (.lc e t one it ifs ow)) f s = Ev.bind (r.e (.lc e t one it ifs ow)) f s := nr rfl
theorem z_B_nil {f : Fl → Ev β} : Ev.bind (sL r []) f s = f .nx s := nr rfl
theorem z_B_cons {j : J} {js : List J} {f : Fl → Ev β} : Ev.bind (sL r (j :: js)) f s = Ev.bind (r.s j) (fun g => match g with | .nx => Ev.bind (sL r js) f | g => f g) s := by
  show Ev.bind (Ev.bind (r.s j) fun g => match g with | .nx => sL r js | f => Ev.ok f) f s = _
  rw [bb]
  refine congrArg (fun g => Ev.bind _ g s) (funext fun g => ?_)
  cases g <;> rfl
theorem z_F_nil {t : List Nat} {one : Bool} {b : Ev Fl} {f : Fl → Ev β} : Ev.bind (forL t one b []) f s = f .nx s := nr rfl
theorem z_F_cons {t : List Nat} {one : Bool} {b : Ev Fl} {d : D} {ds : List D} {f : Fl → Ev β} : Ev.bind (forL t one b (d :: ds)) f s = Ev.bind (putT t one d) (fun _ => Ev.bind b fun g => match g with | .nx => Ev.bind (forL t one b ds) f | .ct => Ev.bind (forL t one b ds) f | .bk => f .nx | .rt x => f (.rt x)) s := by
  show Ev.bind (Ev.bind (putT t one d) fun _ => Ev.bind b fun g => match g with | .nx => forL t one b ds | .ct => forL t one b ds | .bk => Ev.ok .nx | .rt x => Ev.ok (.rt x)) f s = _
  rw [bb]
  refine congrArg (fun g => Ev.bind _ g s) (funext fun _ => ?_)
  rw [bb]
  refine congrArg (fun g => Ev.bind _ g) (funext fun g => ?_)
  cases g <;> rfl
theorem z_put1 {i : Nat} {d : D} {f : Unit → Ev β} : Ev.bind (putT [i] true d) f s = Ev.bind (putV i (.val d)) f s := nr rfl
theorem z_lend0 {m : Ev α} {f : α → Ev β} : Ev.bind (lending [] m) f s = Ev.bind m f s := by
  unfold Ev.bind lending
  show (match (match m s with | none => none | some (x, s') => some (x, s')) with | none => none | some (Except.error x, s') => some (Except.error x, s') | some (Except.ok a, s') => f a s') = _
  cases m s with
  | none => rfl
  | some p => rfl
theorem z_callS {g : Str} {ds : List D} {x : R} {S2 : Sto} {f : R → Ev β} (h : c g ds L S = some (.ok x, S2)) : Ev.bind (callS c g ds) f ⟨env, S, L⟩ = f x ⟨env, S2, L⟩ := by
  unfold Ev.bind callS
  simp only [h]
theorem z_callSD {g : Str} {ds : List D} {x : R} {S2 : Sto} {f : D → Ev β} (h : c g ds L S = some (.ok x, S2)) : Ev.bD (callS c g ds) f ⟨env, S, L⟩ = f x.d ⟨env, S2, L⟩ := z_callS h
theorem z_callSe {g : Str} {ds : List D} {x : Exn} {S2 : Sto} {f : R → Ev β} (h : c g ds L S = some (.error x, S2)) : Ev.bind (callS c g ds) f ⟨env, S, L⟩ = some (Except.error x, ⟨env, S2, L⟩) := by
  unfold Ev.bind callS
  simp only [h]
theorem z_callSeD {g : Str} {ds : List D} {x : Exn} {S2 : Sto} {f : D → Ev β} (h : c g ds L S = some (.error x, S2)) : Ev.bD (callS c g ds) f ⟨env, S, L⟩ = some (Except.error x, ⟨env, S2, L⟩) := z_callSe h
/-! ### what loops walk -/
theorem z_I_rng {a : I} {f : List D × List Nat → Ev β} : Ev.bind (eI r (.rng a)) f s = Ev.bD (r.e a) (fun x => Ev.bind (Ev.of (intD x)) fun j => if small62 j then f (rangeD 0 j.toNat, []) else Ev.no) s := by
  show Ev.bind (eI r (.rng a)) f s = _
  unfold eI
  simp only [bb]
  unfold Ev.bD
  refine congrArg (fun g => Ev.bind _ g s) (funext fun x => ?_)
  refine congrArg (fun g => Ev.bind _ g) (funext fun j => ?_)
  by_cases h : small62 j = true <;> simp only [h, if_true, if_false] <;> rfl
theorem z_I_rng2 {a b : I} {f : List D × List Nat → Ev β} : Ev.bind (eI r (.rng2 a b)) f s = Ev.bD (r.e a) (fun x => Ev.bD (r.e b) fun y => Ev.bind (Ev.of (intD x)) fun i => Ev.bind (Ev.of (intD y)) fun j => if (small62 i && small62 j) = true then f (rangeD i (j - i).toNat, []) else Ev.no) s := by
  show Ev.bind (eI r (.rng2 a b)) f s = _
  unfold eI
  simp only [bb]
  unfold Ev.bD
  refine congrArg (fun g => Ev.bind _ g s) (funext fun x => ?_)
  refine congrArg (fun g => Ev.bind _ g) (funext fun y => ?_)
  refine congrArg (fun g => Ev.bind _ g) (funext fun i => ?_)
  refine congrArg (fun g => Ev.bind _ g) (funext fun j => ?_)
  by_cases h : (small62 i && small62 j) = true <;> simp only [h, if_true, if_false] <;> rfl
theorem z_I_zip {a b : I} {f : List D × List Nat → Ev β} : Ev.bind (eI r (.zip a b)) f s = Ev.bind (eP r a) (fun p => Ev.bind (eP r b) fun q => Ev.bind (resP p) fun x => Ev.bind (resP q) fun y => if lstTup x y = true then Ev.bind (Ev.of (itemsD x)) (fun xs => Ev.bind (Ev.of (itemsD y)) fun ys => f (zipD xs ys, plSlots [p, q])) else Ev.no) s := by
  unfold eI
  simp only [bb]
  refine congrArg (fun g => Ev.bind _ g s) (funext fun p => ?_)
  refine congrArg (fun g => Ev.bind _ g) (funext fun q => ?_)
  refine congrArg (fun g => Ev.bind _ g) (funext fun x => ?_)
  refine congrArg (fun g => Ev.bind _ g) (funext fun y => ?_)
  by_cases h : lstTup x y = true <;> simp only [h, if_true, if_false, bb] <;> rfl
theorem z_I_var {i : Nat} {f : List D × List Nat → Ev β} : Ev.bind (eI r (.var i)) f s = Ev.bind (eP r (.var i)) (fun p => Ev.bind (resP p) fun x => Ev.bind (Ev.of (itemsD x)) fun xs => f (xs, plSlots [p])) s := by
  unfold eI
  simp only [bb] <;> rfl
theorem z_I_call {g : Str} {as : List I} {f : List D × List Nat → Ev β} : Ev.bind (eI r (.call g as)) f s = Ev.bind (eP r (.call g as)) (fun p => Ev.bind (resP p) fun x => Ev.bind (Ev.of (itemsD x)) fun xs => f (xs, plSlots [p])) s := by
  unfold eI
  simp only [bb] <;> rfl
theorem z_I_callv {g : I} {as : List I} {f : List D × List Nat → Ev β} : Ev.bind (eI r (.callv g as)) f s = Ev.bind (eP r (.callv g as)) (fun p => Ev.bind (resP p) fun x => Ev.bind (Ev.of (itemsD x)) fun xs => f (xs, plSlots [p])) s := by
  unfold eI
  simp only [bb] <;> rfl
theorem z_I_callc {g : Str} {as : List I} {cs : List Nat} {f : List D × List Nat → Ev β} : Ev.bind (eI r (.callc g as cs)) f s = Ev.bind (eP r (.callc g as cs)) (fun p => Ev.bind (resP p) fun x => Ev.bind (Ev.of (itemsD x)) fun xs => f (xs, plSlots [p])) s := by
  unfold eI
  simp only [bb] <;> rfl
theorem z_I_tup {as : List I} {f : List D × List Nat → Ev β} : Ev.bind (eI r (.tup as)) f s = Ev.bind (eP r (.tup as)) (fun p => Ev.bind (resP p) fun x => Ev.bind (Ev.of (itemsD x)) fun xs => f (xs, plSlots [p])) s := by
  unfold eI
  simp only [bb] <;> rfl
theorem z_I_lst {as : List I} {f : List D × List Nat → Ev β} : Ev.bind (eI r (.lst as)) f s = Ev.bind (eP r (.lst as)) (fun p => Ev.bind (resP p) fun x => Ev.bind (Ev.of (itemsD x)) fun xs => f (xs, plSlots [p])) s := by
  unfold eI
  simp only [bb] <;> rfl
theorem z_I_idx {a b : I} {f : List D × List Nat → Ev β} : Ev.bind (eI r (.idx a b)) f s = Ev.bind (eP r (.idx a b)) (fun p => Ev.bind (resP p) fun x => Ev.bind (Ev.of (itemsD x)) fun xs => f (xs, plSlots [p])) s := by
  unfold eI
  simp only [bb] <;> rfl
theorem z_I_key {a : I} {k : Str} {f : List D × List Nat → Ev β} : Ev.bind (eI r (.key a k)) f s = Ev.bind (eP r (.key a k)) (fun p => Ev.bind (resP p) fun x => Ev.bind (Ev.of (itemsD x)) fun xs => f (xs, plSlots [p])) s := by
  unfold eI
  simp only [bb] <;> rfl
theorem z_I_slc {a : I} {lo hi : Option I} {f : List D × List Nat → Ev β} : Ev.bind (eI r (.slc a lo hi)) f s = Ev.bind (eP r (.slc a lo hi)) (fun p => Ev.bind (resP p) fun x => Ev.bind (Ev.of (itemsD x)) fun xs => f (xs, plSlots [p])) s := by
  unfold eI
  simp only [bb] <;> rfl
theorem z_I_bi {b : Bi} {as : List I} {f : List D × List Nat → Ev β} : Ev.bind (eI r (.bi b as)) f s = Ev.bind (eP r (.bi b as)) (fun p => Ev.bind (resP p) fun x => Ev.bind (Ev.of (itemsD x)) fun xs => f (xs, plSlots [p])) s := by
  unfold eI
  simp only [bb] <;> rfl
theorem z_I_bin {o : Operator} {a b : I} {f : List D × List Nat → Ev β} : Ev.bind (eI r (.bin o a b)) f s = Ev.bind (eP r (.bin o a b)) (fun p => Ev.bind (resP p) fun x => Ev.bind (Ev.of (itemsD x)) fun xs => f (xs, plSlots [p])) s := by
  unfold eI
  simp only [bb] <;> rfl
theorem z_I_lc {e : I} {t : List Nat} {one : Bool} {it : I} {ifs : List I} {ow : List Nat} {f : List D × List Nat → Ev β} : Ev.bind (eI r (.lc e t one it ifs ow)) f s = Ev.bind (eP r (.lc e t one it ifs ow)) (fun p => Ev.bind (resP p) fun x => Ev.bind (Ev.of (itemsD x)) fun xs => f (xs, plSlots [p])) s := by
  unfold eI
  simp only [bb] <;> rfl
theorem z_I_ite {t a b : I} {f : List D × List Nat → Ev β} : Ev.bind (eI r (.ite t a b)) f s = Ev.bind (eP r (.ite t a b)) (fun p => Ev.bind (resP p) fun x => Ev.bind (Ev.of (itemsD x)) fun xs => f (xs, plSlots [p])) s := by
  unfold eI
  simp only [bb] <;> rfl
theorem z_I_rev {a : I} {f : List D × List Nat → Ev β} : Ev.bind (eI r (.rev a)) f s = Ev.bind (eP r (.rev a)) (fun p => Ev.bind (resP p) fun x => Ev.bind (Ev.of (itemsD x)) fun xs => f (xs, plSlots [p])) s := by
  unfold eI
  simp only [bb] <;> rfl
end
/-- what is told of an end: the frame is dropped -/
def fin : Option (Except Exn Fl × Sx) → Option (Except Exn Fl × Sto)
  | some (x, s) => some (x, s.S)
  | none => none
theorem fin_ok {x : Except Exn Fl} {env : List Bd} {S : Sto} {L : List (Option D)} : fin (some (x, ⟨env, S, L⟩)) = some (x, S) := rfl
theorem call_rt {P : Prg} {k : Nat} {f : Str} {df : Df} {ds : List D} {L : List (Option D)} {S S2 : Sto} {x : R} (hf : P.defs.lookup f = some df) (hl : ds.length = df.ps.length)
    (h : fin (Ev.bind (sL (ev P (callN P k) P.af) df.body) Ev.ok ⟨ds.map .val ++ List.replicate (df.N - ds.length) .un, S, L⟩) = some (.ok (.rt x), S2)) : callN P (k + 1) f ds L S = some (.ok x, S2) := by
  rw [z_end] at h
  unfold callN
  rw [hf]
  simp only
  rw [if_pos hl]
  generalize sL (ev P (callN P k) P.af) df.body ⟨ds.map .val ++ List.replicate (df.N - ds.length) .un, S, L⟩ = o at h ⊢
  cases o with
  | none => cases h
  | some p =>
    obtain ⟨y, s⟩ := p
    cases h
    rfl
theorem call_er {P : Prg} {k : Nat} {f : Str} {df : Df} {ds : List D} {L : List (Option D)} {S S2 : Sto} {x : Exn} (hf : P.defs.lookup f = some df) (hl : ds.length = df.ps.length)
    (h : fin (Ev.bind (sL (ev P (callN P k) P.af) df.body) Ev.ok ⟨ds.map .val ++ List.replicate (df.N - ds.length) .un, S, L⟩) = some (.error x, S2)) : callN P (k + 1) f ds L S = some (.error x, S2) := by
  rw [z_end] at h
  unfold callN
  rw [hf]
  simp only
  rw [if_pos hl]
  generalize sL (ev P (callN P k) P.af) df.body ⟨ds.map .val ++ List.replicate (df.N - ds.length) .un, S, L⟩ = o at h ⊢
  cases o with
  | none => cases h
  | some p =>
    obtain ⟨y, s⟩ := p
    cases h
    rfl
/-- all head equations -/
def Z := And.intro @z_bb <| And.intro @z_bDb <| And.intro @z_bDD <| And.intro @z_bbD <| And.intro @z_ok <| And.intro @z_okV <| And.intro @z_okF <| And.intro @z_of <| And.intro @z_ofD <| And.intro @z_sto <| And.intro @z_stoD <| And.intro @z_getV <| And.intro @z_getD <| And.intro @z_getP <| And.intro @z_getO <| And.intro @z_resV <| And.intro @z_resT <| And.intro @z_putV <| And.intro @z_stoK <| And.intro @z_P_var <| And.intro @z_P_cst <| And.intro @z_P_glb <| And.intro @z_P_bin <| And.intro @z_P_neg <| And.intro @z_P_nt <| And.intro @z_P_and <| And.intro @z_P_or <| And.intro @z_P_cmp <| And.intro @z_P_chn <| And.intro @z_P_ite <| And.intro @z_P_call <| And.intro @z_P_callv <| And.intro @z_P_callc <| And.intro @z_P_callv0 <| And.intro @z_P_lam <| And.intro @z_P_bi <| And.intro @z_P_isi <| And.intro @z_P_bits <| And.intro @z_P_app <| And.intro @z_P_pop <| And.intro @z_P_idx <| And.intro @z_P_key <| And.intro @z_P_slc <| And.intro @z_P_rev <| And.intro @z_P_tup <| And.intro @z_P_lst <| And.intro @z_P_dic <| And.intro @z_P_lc <| And.intro @z_A_nil <| And.intro @z_A_cons <| And.intro @z_Ps_nil <| And.intro @z_Ps_cons <| And.intro @z_L_nil <| And.intro @z_L_cons <| And.intro @z_E_cstn <| And.intro @z_E_cstnD <| And.intro @z_E_cstb <| And.intro @z_E_cstbD <| And.intro @z_E_csti <| And.intro @z_E_cstiD <| And.intro @z_E_csts <| And.intro @z_E_cstsD <| And.intro @z_E_glb <| And.intro @z_E_glbD <| And.intro @z_E_var <| And.intro @z_E_varD <| And.intro @z_E_bin <| And.intro @z_E_binD <| And.intro @z_E_neg <| And.intro @z_E_negD <| And.intro @z_E_nt <| And.intro @z_E_ntD <| And.intro @z_E_and <| And.intro @z_E_andD <| And.intro @z_E_or <| And.intro @z_E_orD <| And.intro @z_E_cmp <| And.intro @z_E_cmpD <| And.intro @z_E_chn <| And.intro @z_E_chnD <| And.intro @z_E_ite <| And.intro @z_E_iteD <| And.intro @z_E_call <| And.intro @z_E_callD <| And.intro @z_E_callc <| And.intro @z_E_callcD <| And.intro @z_E_callv <| And.intro @z_E_callvD <| And.intro @z_E_callv0 <| And.intro @z_E_callv0D <| And.intro @z_E_lam <| And.intro @z_E_lamD <| And.intro @z_E_bi <| And.intro @z_E_biD <| And.intro @z_E_isi <| And.intro @z_E_isiD <| And.intro @z_E_bits <| And.intro @z_E_bitsD <| And.intro @z_E_idx <| And.intro @z_E_idxD <| And.intro @z_E_slc <| And.intro @z_E_slcD <| And.intro @z_no <| And.intro @z_E_tup <| And.intro @z_E_tupD <| And.intro @z_E_lst <| And.intro @z_E_lstD <| And.intro @z_E_rev <| And.intro @z_E_revD <| And.intro @z_keyK <| And.intro @z_E_key <| And.intro @z_E_keyD <| And.intro @z_appK <| And.intro @z_E_app <| And.intro @z_E_appD <| And.intro @z_dicK <| And.intro @z_new <| And.intro @z_E_dic0 <| And.intro @z_E_dic <| And.intro @z_E_dic0D <| And.intro @z_E_dicD <| And.intro @z_T_nt <| And.intro @z_T_and <| And.intro @z_T_or <| And.intro @z_T_cmp <| And.intro @z_T_chn <| And.intro @z_T_cst <| And.intro @z_T_glb <| And.intro @z_T_var <| And.intro @z_T_bin <| And.intro @z_T_neg <| And.intro @z_T_ite <| And.intro @z_T_call <| And.intro @z_T_callv <| And.intro @z_T_callc <| And.intro @z_T_callv0 <| And.intro @z_T_bi <| And.intro @z_T_isi <| And.intro @z_T_bits <| And.intro @z_T_idx <| And.intro @z_T_key <| And.intro @z_T_slc <| And.intro @z_T_rev <| And.intro @z_T_tup <| And.intro @z_T_lst <| And.intro @z_T_lc <| And.intro @z_part0 <| And.intro @z_part1 <| And.intro @z_S_ex <| And.intro @z_S_set <| And.intro @z_S_setk <| And.intro @z_S_seti <| And.intro @z_putnm <| And.intro @z_kyK <| And.intro @z_putky <| And.intro @z_ixK <| And.intro @z_putix <| And.intro @z_S_setT <| And.intro @z_Ts_nil <| And.intro @z_Ts_cons <| And.intro @z_S_par <| And.intro @z_Par_nil <| And.intro @z_Par_cons <| And.intro @z_S_augAdd <| And.intro @z_S_augSub <| And.intro @z_S_iff <| And.intro @z_S_for <| And.intro @z_S_whl <| And.intro @z_S_retN <| And.intro @z_S_pass <| And.intro @z_S_brk <| And.intro @z_S_cnt <| And.intro @z_S_ret <| And.intro @z_R_var <| And.intro @z_R_cst <| And.intro @z_R_glb <| And.intro @z_R_bin <| And.intro @z_R_neg <| And.intro @z_R_nt <| And.intro @z_R_and <| And.intro @z_R_or <| And.intro @z_R_cmp <| And.intro @z_R_chn <| And.intro @z_R_ite <| And.intro @z_R_call <| And.intro @z_R_callv <| And.intro @z_R_callc <| And.intro @z_R_callv0 <| And.intro @z_R_lam <| And.intro @z_R_bi <| And.intro @z_R_isi <| And.intro @z_R_bits <| And.intro @z_R_app <| And.intro @z_R_pop <| And.intro @z_R_idx <| And.intro @z_R_key <| And.intro @z_R_slc <| And.intro @z_R_rev <| And.intro @z_R_tup <| And.intro @z_R_lst <| And.intro @z_R_dic <| And.intro @z_R_lc <| And.intro @z_B_nil <| And.intro @z_B_cons <| And.intro @z_F_nil <| And.intro @z_F_cons <| And.intro @z_put1 <| And.intro @z_lend0 <| And.intro @z_I_rng <| And.intro @z_I_rng2 <| And.intro @z_I_zip <| And.intro @z_I_var <| And.intro @z_I_call <| And.intro @z_I_callv <| And.intro @z_I_callc <| And.intro @z_I_tup <| And.intro @z_I_lst <| And.intro @z_I_idx <| And.intro @z_I_key <| And.intro @z_I_slc <| And.intro @z_I_bi <| And.intro @z_I_bin <| And.intro @z_I_lc <| And.intro @z_I_ite @z_I_rev
end Rf
/-! Rp: the evaluator's values -/
namespace Rf
open PySem PySem.Spec L2
/-! ### sizes -/
/-- below 2^k -/
def Sm (k : Nat) (a : Int) : Prop := a.natAbs < 2 ^ k
theorem Sm.mono {j k : Nat} {a : Int} (h : Sm j a) (l : j ≤ k) : Sm k a := Nat.lt_of_lt_of_le h (Nat.pow_le_pow_right (by decide) l)
theorem Sm.mul {j k : Nat} {a b : Int} (h : Sm j a) (g : Sm k b) : Sm (j + k) (a * b) := by
  unfold Sm at *
  rw [Int.natAbs_mul, Nat.pow_add]
  exact Nat.mul_lt_mul_of_lt_of_le h (Nat.le_of_lt g) (Nat.lt_of_le_of_lt (Nat.zero_le _) g)
theorem Sm.add {k : Nat} {a b : Int} (h : Sm k a) (g : Sm k b) : Sm (k + 1) (a + b) := by
  unfold Sm at *
  rw [Nat.pow_succ]
  omega
theorem Sm.sub {k : Nat} {a b : Int} (h : Sm k a) (g : Sm k b) : Sm (k + 1) (a - b) := by
  unfold Sm at *
  rw [Nat.pow_succ]
  omega
theorem Sm.neg {k : Nat} {a : Int} (h : Sm k a) : Sm k (-a) := by
  unfold Sm at *
  rw [Int.natAbs_neg]
  exact h
theorem Sm.le {k : Nat} {a b : Int} (h : Sm k a) (g : b.natAbs ≤ a.natAbs) : Sm k b := Nat.lt_of_le_of_lt g h
theorem Sm.bits {k : Nat} {a : Int} (h : Sm k a) : intBits a ≤ k := by
  unfold intBits Builtin.Int.intBits
  split
  · exact Nat.zero_le _
  · rename_i z
    have z2 : a.natAbs ≠ 0 := fun e => z (by simp [Int.natAbs_eq_zero.mp e])
    exact (Nat.log2_lt z2).mpr h
theorem Sm.of_bits {k : Nat} {a : Int} (h : intBits a ≤ k) : Sm k a := by
  unfold intBits Builtin.Int.intBits at h
  unfold Sm
  split at h
  · rename_i z
    rw [show a = 0 from by simpa using z]
    exact Nat.pos_of_ne_zero (by simp)
  · rename_i z
    have z2 : a.natAbs ≠ 0 := fun e => z (by simp [Int.natAbs_eq_zero.mp e])
    exact (Nat.log2_lt z2).mp h
theorem pyl_no {a b : Int} (h : Sm 8000 b) : Builtin.divisionGoesByPylong a b = false := by
  unfold Builtin.divisionGoesByPylong
  by_cases z : b = 0
  · simp [z]
  · have l : b.natAbs.log2 < 8000 := (Nat.log2_lt (fun e => z (Int.natAbs_eq_zero.mp e))).mpr h
    have : ¬ (b.natAbs.log2 / 30 + 1 > 300) := by omega
    simp [z, this]
/-! ### operators -/
theorem b_add {a b : Int} : binop .Add (.int a) (.int b) = some (.val (.int (a + b))) := nr rfl
theorem b_sub {a b : Int} : binop .Sub (.int a) (.int b) = some (.val (.int (a - b))) := nr rfl
theorem b_mul {a b : Int} (h : intBits a + intBits b ≤ 134217728) : binop .Mult (.int a) (.int b) = some (.val (.int (a * b))) := by
  show (if _ then _ else _) = _; rw [if_pos h]
theorem b_mulS {a b : Int} (h : Sm 60000000 a) (g : Sm 60000000 b) : binop .Mult (.int a) (.int b) = some (.val (.int (a * b))) := b_mul (Nat.le_trans (Nat.add_le_add h.bits g.bits) (by decide))
theorem b_mod {a b : Int} (h : b ≠ 0) : binop .Mod (.int a) (.int b) = some (.val (.int (a.fmod b))) := by
  show (if _ then _ else _) = _; rw [if_pos h]
theorem b_div {a b : Int} (h : b ≠ 0) (g : Sm 8000 b) : binop .FloorDiv (.int a) (.int b) = some (.val (.int (a.fdiv b))) := by
  show (if _ then _ else _) = _; rw [if_pos ⟨h, pyl_no g⟩]
theorem b_pow {a b : Int} (h : 0 ≤ b ∧ b ≤ 1000000 ∧ a.natAbs < 2 ^ 64) : binop .Pow (.int a) (.int b) = some (.val (.int (a ^ b.toNat))) := by
  show (if _ then _ else _) = _; rw [if_pos h]
theorem b_tup {a b : List D} (h : a.length + b.length ≤ line) : binop .Add (.tup a) (.tup b) = some (.val (.tup (a ++ b))) := by
  show (if _ then _ else _) = _; rw [if_pos h]
theorem b_lst {a b : List D} (h : a.length + b.length ≤ line) : binop .Add (.lst a) (.lst b) = some (.fresh (a ++ b)) := by
  show (if _ then _ else _) = _; rw [if_pos h]
theorem b_lmul {a : List D} {k : Int} (h : k.natAbs ≤ 1000000000 ∧ a.length * k.toNat ≤ line) : binop .Mult (.lst a) (.int k) = some (.fresh (List.replicate k.toNat a).flatten) := by
  show (if _ then _ else _) = _; rw [if_pos h]
theorem b_tmul {a : List D} {k : Int} (h : a ≠ [] ∧ 2 ≤ k.toNat ∧ k.toNat ≤ 1000 ∧ a.length ≤ 1000) : binop .Mult (.tup a) (.int k) = some (.val (.tup (List.replicate k.toNat a).flatten)) := by
  show (if _ then _ else _) = _; rw [if_pos h]
theorem b_tmul1 {a : List D} : binop .Mult (.tup a) (.int 1) = some (.val (.tup a)) := by
  show (if a ≠ [] ∧ 2 ≤ (1 : Int).toNat ∧ (1 : Int).toNat ≤ 1000 ∧ a.length ≤ 1000 then _ else if (1 : Int) = 1 then _ else _) = _
  rw [if_neg (fun z => absurd z.2.1 (by decide)), if_pos rfl]
theorem b_tmul0 {a : List D} (h : a ≠ []) : binop .Mult (.tup a) (.int 0) = some (.val (.tup [])) := by
  show (if a ≠ [] ∧ 2 ≤ (0 : Int).toNat ∧ (0 : Int).toNat ≤ 1000 ∧ a.length ≤ 1000 then _ else if (0 : Int) = 1 then _ else if a ≠ [] ∧ (0 : Int).natAbs ≤ 1000000000 ∧ (0 : Int).toNat = 0 then _ else _) = _
  rw [if_neg (fun z => absurd z.2.1 (by decide)), if_neg (by decide), if_pos ⟨h, by decide, rfl⟩]
/-- as many times as told -/
theorem b_tmulN {a : List D} {n : Nat} (h : a ≠ []) (l : n ≤ 1000) (l2 : a.length ≤ 1000) : binop .Mult (.tup a) (.int n) = some (.val (.tup (List.replicate n a).flatten)) := by
  match n, l with
  | 0, _ => exact b_tmul0 h
  | 1, _ => rw [show List.replicate 1 a = [a] from rfl, List.flatten_singleton]; exact b_tmul1
  | n + 2, l => exact b_tmul (k := ((n + 2 : Nat) : Int)) ⟨h, by omega, by omega, l2⟩
theorem c_lt {S : Sto} {a b : Int} : cmpop S .Lt (.int a) (.int b) = some (decide (a < b)) := nr rfl
theorem c_le {S : Sto} {a b : Int} : cmpop S .LtE (.int a) (.int b) = some (decide (a ≤ b)) := nr rfl
theorem c_gt {S : Sto} {a b : Int} : cmpop S .Gt (.int a) (.int b) = some (decide (b < a)) := nr rfl
theorem c_ge {S : Sto} {a b : Int} : cmpop S .GtE (.int a) (.int b) = some (decide (b ≤ a)) := nr rfl
theorem c_is_non {S : Sto}  : cmpop S .Is .non .non = some true := nr rfl
theorem c_isn_non {S : Sto}  : cmpop S .IsNot .non .non = some false := nr rfl
theorem c_is_bl {S : Sto} {b : Bool} : cmpop S .Is (.bl b) .non = some false := nr rfl
theorem c_isn_bl {S : Sto} {b : Bool} : cmpop S .IsNot (.bl b) .non = some true := nr rfl
theorem c_is_int {S : Sto} {i : Int} : cmpop S .Is (.int i) .non = some false := nr rfl
theorem c_isn_int {S : Sto} {i : Int} : cmpop S .IsNot (.int i) .non = some true := nr rfl
theorem c_is_str {S : Sto} {x : Str} : cmpop S .Is (.str x) .non = some false := nr rfl
theorem c_isn_str {S : Sto} {x : Str} : cmpop S .IsNot (.str x) .non = some true := nr rfl
theorem c_is_tup {S : Sto} {l : List D} : cmpop S .Is (.tup l) .non = some false := nr rfl
theorem c_isn_tup {S : Sto} {l : List D} : cmpop S .IsNot (.tup l) .non = some true := nr rfl
theorem c_is_lst {S : Sto} {l : List D} : cmpop S .Is (.lst l) .non = some false := nr rfl
theorem c_isn_lst {S : Sto} {l : List D} : cmpop S .IsNot (.lst l) .non = some true := nr rfl
theorem c_is_cel {S : Sto} {n : Nat} : cmpop S .Is (.cel n) .non = some false := nr rfl
theorem c_isn_cel {S : Sto} {n : Nat} : cmpop S .IsNot (.cel n) .non = some true := nr rfl
theorem c_isb {S : Sto} {a b : Bool} : cmpop S .Is (.bl a) (.bl b) = some (decide (a = b)) := nr rfl
theorem c_isnb {S : Sto} {a b : Bool} : cmpop S .IsNot (.bl a) (.bl b) = some (!decide (a = b)) := nr rfl
theorem shp_int {i : Int} : SeqAt.shaped (.int i) = true := by
  unfold SeqAt.shaped PyData.canLay0 PyData.depth
  rfl
theorem pd_int {S : Sto} {i : Int} : D.pd S (.int i) = some (.int i) := by unfold D.pd; rfl
theorem pd_str {S : Sto} {x : Str} : D.pd S (.str x) = some (.str x) := by unfold D.pd; rfl
theorem pd_non {S : Sto} : D.pd S .non = some .none := by unfold D.pd; rfl
theorem pd_bl {S : Sto} {b : Bool} : D.pd S (.bl b) = some (.bool b) := by unfold D.pd; rfl
theorem ev_int {a b : Int} : PyData.eqv (.int a) (.int b) = decide (a = b) := by
  unfold PyData.eqv
  by_cases h : a = b <;> simp [h]
theorem c_eq_int {S : Sto} {a b : Int} : cmpop S .Eq (.int a) (.int b) = some (decide (a = b)) := by
  unfold cmpop
  simp only [pd_int, shp_int, ev_int, and_self, if_true]
theorem c_eq_str {S : Sto} {a b : Str} : cmpop S .Eq (.str a) (.str b) = some (decide (a = b)) := nr rfl
theorem c_ne_int {S : Sto} {a b : Int} : cmpop S .NotEq (.int a) (.int b) = some (!decide (a = b)) := by
  unfold cmpop
  simp only [pd_int, shp_int, ev_int, and_self, if_true]
theorem c_ne_str {S : Sto} {a b : Str} : cmpop S .NotEq (.str a) (.str b) = some (!decide (a = b)) := nr rfl
/-! ### truth, types -/
theorem t_non {S : Sto} : truD S .non = some false := nr rfl
theorem t_bl {S : Sto} {b : Bool} : truD S (.bl b) = some b := nr rfl
theorem t_int {S : Sto} {i : Int} : truD S (.int i) = some (i != 0) := nr rfl
theorem t_tup {S : Sto} {l : List D} : truD S (.tup l) = some (!l.isEmpty) := nr rfl
theorem t_lst {S : Sto} {l : List D} : truD S (.lst l) = some (!l.isEmpty) := nr rfl
theorem d_int {i : Int} : intD (.int i) = some i := nr rfl
theorem it_lst {l : List D} : itemsD (.lst l) = some l := nr rfl
theorem it_tup {l : List D} : itemsD (.tup l) = some l := nr rfl
theorem it_scr {l : List D} : itemsD (.scr l) = some l := nr rfl
theorem ty_non  : tyD .non = some "NoneType" := nr rfl
theorem ty_bl {b : Bool} : tyD (.bl b) = some "bool" := nr rfl
theorem ty_int {i : Int} : tyD (.int i) = some "int" := nr rfl
theorem ty_str {x : Str} : tyD (.str x) = some "str" := nr rfl
theorem ty_tup {l : List D} : tyD (.tup l) = some "tuple" := nr rfl
theorem ty_lst {l : List D} : tyD (.lst l) = some "list" := nr rfl
theorem ty_cel {n : Nat} : tyD (.cel n) = some "dict" := nr rfl
theorem is_non0 : isiL "NoneType" ["int"] = some false := by kernel_rfl
theorem is_non1 : isiL "NoneType" ["bool"] = some false := by kernel_rfl
theorem is_non2 : isiL "NoneType" ["tuple"] = some false := by kernel_rfl
theorem is_non3 : isiL "NoneType" ["list"] = some false := by kernel_rfl
theorem is_non4 : isiL "NoneType" ["tuple", "list"] = some false := by kernel_rfl
theorem is_non5 : isiL "NoneType" ["str"] = some false := by kernel_rfl
theorem is_non6 : isiL "NoneType" ["dict"] = some false := by kernel_rfl
theorem is_non7 : isiL "NoneType" ["list", "tuple"] = some false := by kernel_rfl
theorem is_bl0 : isiL "bool" ["int"] = some true := by kernel_rfl
theorem is_bl1 : isiL "bool" ["bool"] = some true := by kernel_rfl
theorem is_bl2 : isiL "bool" ["tuple"] = some false := by kernel_rfl
theorem is_bl3 : isiL "bool" ["list"] = some false := by kernel_rfl
theorem is_bl4 : isiL "bool" ["tuple", "list"] = some false := by kernel_rfl
theorem is_bl5 : isiL "bool" ["str"] = some false := by kernel_rfl
theorem is_bl6 : isiL "bool" ["dict"] = some false := by kernel_rfl
theorem is_bl7 : isiL "bool" ["list", "tuple"] = some false := by kernel_rfl
theorem is_int0 : isiL "int" ["int"] = some true := by kernel_rfl
theorem is_int1 : isiL "int" ["bool"] = some false := by kernel_rfl
theorem is_int2 : isiL "int" ["tuple"] = some false := by kernel_rfl
theorem is_int3 : isiL "int" ["list"] = some false := by kernel_rfl
theorem is_int4 : isiL "int" ["tuple", "list"] = some false := by kernel_rfl
theorem is_int5 : isiL "int" ["str"] = some false := by kernel_rfl
theorem is_int6 : isiL "int" ["dict"] = some false := by kernel_rfl
theorem is_int7 : isiL "int" ["list", "tuple"] = some false := by kernel_rfl
theorem is_str0 : isiL "str" ["int"] = some false := by kernel_rfl
theorem is_str1 : isiL "str" ["bool"] = some false := by kernel_rfl
theorem is_str2 : isiL "str" ["tuple"] = some false := by kernel_rfl
theorem is_str3 : isiL "str" ["list"] = some false := by kernel_rfl
theorem is_str4 : isiL "str" ["tuple", "list"] = some false := by kernel_rfl
theorem is_str5 : isiL "str" ["str"] = some true := by kernel_rfl
theorem is_str6 : isiL "str" ["dict"] = some false := by kernel_rfl
theorem is_str7 : isiL "str" ["list", "tuple"] = some false := by kernel_rfl
theorem is_tup0 : isiL "tuple" ["int"] = some false := by kernel_rfl
theorem is_tup1 : isiL "tuple" ["bool"] = some false := by kernel_rfl
theorem is_tup2 : isiL "tuple" ["tuple"] = some true := by kernel_rfl
theorem is_tup3 : isiL "tuple" ["list"] = some false := by kernel_rfl
theorem is_tup4 : isiL "tuple" ["tuple", "list"] = some true := by kernel_rfl
theorem is_tup5 : isiL "tuple" ["str"] = some false := by kernel_rfl
theorem is_tup6 : isiL "tuple" ["dict"] = some false := by kernel_rfl
theorem is_tup7 : isiL "tuple" ["list", "tuple"] = some true := by kernel_rfl
theorem is_lst0 : isiL "list" ["int"] = some false := by kernel_rfl
theorem is_lst1 : isiL "list" ["bool"] = some false := by kernel_rfl
theorem is_lst2 : isiL "list" ["tuple"] = some false := by kernel_rfl
theorem is_lst3 : isiL "list" ["list"] = some true := by kernel_rfl
theorem is_lst4 : isiL "list" ["tuple", "list"] = some true := by kernel_rfl
theorem is_lst5 : isiL "list" ["str"] = some false := by kernel_rfl
theorem is_lst6 : isiL "list" ["dict"] = some false := by kernel_rfl
theorem is_lst7 : isiL "list" ["list", "tuple"] = some true := by kernel_rfl
theorem is_cel0 : isiL "dict" ["int"] = some false := by kernel_rfl
theorem is_cel1 : isiL "dict" ["bool"] = some false := by kernel_rfl
theorem is_cel2 : isiL "dict" ["tuple"] = some false := by kernel_rfl
theorem is_cel3 : isiL "dict" ["list"] = some false := by kernel_rfl
theorem is_cel4 : isiL "dict" ["tuple", "list"] = some false := by kernel_rfl
theorem is_cel5 : isiL "dict" ["str"] = some false := by kernel_rfl
theorem is_cel6 : isiL "dict" ["dict"] = some true := by kernel_rfl
theorem is_cel7 : isiL "dict" ["list", "tuple"] = some false := by kernel_rfl
/-! ### built-ins -/
theorem f_len_tup {S : Sto} {l : List D} : biD S .len [.tup l] = some (.val (.int l.length)) := nr rfl
theorem f_len_lst {S : Sto} {l : List D} : biD S .len [.lst l] = some (.val (.int l.length)) := nr rfl
theorem f_len_scr {S : Sto} {l : List D} : biD S .len [.scr l] = some (.val (.int l.length)) := nr rfl
theorem f_abs {S : Sto} {i : Int} : biD S .abs [.int i] = some (.val (.int (if i < 0 then -i else i))) := nr rfl
theorem f_int {S : Sto} {i : Int} : biD S .int [.int i] = some (.val (.int i)) := nr rfl
theorem f_intb {S : Sto} {b : Bool} : biD S .int [.bl b] = some (.val (.int (if b = true then 1 else 0))) := nr rfl
theorem f_list_tup {S : Sto} {l : List D} : biD S .list [.tup l] = some (.fresh l) := nr rfl
theorem f_list_lst {S : Sto} {l : List D} : biD S .list [.lst l] = some (.fresh l) := nr rfl
theorem f_list_scr {S : Sto} {l : List D} : biD S .list [.scr l] = some (.fresh l) := nr rfl
theorem f_tuple_tup {S : Sto} {l : List D} : biD S .tuple [.tup l] = some (.val (.tup l)) := nr rfl
theorem f_tuple_lst {S : Sto} {l : List D} : biD S .tuple [.lst l] = some (.val (.tup l)) := nr rfl
theorem f_gcd {S : Sto} {a b : Int} : biD S .gcd [.int a, .int b] = some (.val (.int ((Nat.gcd a.natAbs b.natAbs : Nat) : Int))) := nr rfl
theorem f_max {S : Sto} {a b : Int} : biD S .max2 [.int a, .int b] = some (.val (.int (if b > a then b else a))) := nr rfl
theorem f_min {S : Sto} {a b : Int} : biD S .min2 [.int a, .int b] = some (.val (.int (if b < a then b else a))) := nr rfl
theorem ixD_nat {n i : Nat} (h : i < n) : ixD n i = some i := by
  unfold ixD
  rw [if_pos (by omega), if_pos (by omega)]
  rfl
theorem idx_t {l : List D} {i : Nat} {d : D} (h : l[i]? = some d) : idxD (.tup l) (.int i) = some d := by
  have l2 : i < l.length := (List.getElem?_eq_some_iff.mp h).1
  show (ixD l.length i).bind _ = _
  rw [ixD_nat l2]
  exact h
theorem idx_l {l : List D} {i : Nat} {d : D} (h : l[i]? = some d) : idxD (.lst l) (.int i) = some d := by
  have l2 : i < l.length := (List.getElem?_eq_some_iff.mp h).1
  show (ixD l.length i).bind _ = _
  rw [ixD_nat l2]
  exact h
theorem i_t0 {a0 : D} {l : List D} : idxD (.tup (a0 :: l)) (.int 0) = some a0 := idx_t (i := 0) rfl
theorem i_l0 {a0 : D} {l : List D} : idxD (.lst (a0 :: l)) (.int 0) = some a0 := idx_l (i := 0) rfl
theorem i_t1 {a0 a1 : D} {l : List D} : idxD (.tup (a0 :: a1 :: l)) (.int 1) = some a1 := idx_t (i := 1) rfl
theorem i_l1 {a0 a1 : D} {l : List D} : idxD (.lst (a0 :: a1 :: l)) (.int 1) = some a1 := idx_l (i := 1) rfl
theorem i_t2 {a0 a1 a2 : D} {l : List D} : idxD (.tup (a0 :: a1 :: a2 :: l)) (.int 2) = some a2 := idx_t (i := 2) rfl
theorem i_l2 {a0 a1 a2 : D} {l : List D} : idxD (.lst (a0 :: a1 :: a2 :: l)) (.int 2) = some a2 := idx_l (i := 2) rfl
theorem i_t3 {a0 a1 a2 a3 : D} {l : List D} : idxD (.tup (a0 :: a1 :: a2 :: a3 :: l)) (.int 3) = some a3 := idx_t (i := 3) rfl
theorem i_l3 {a0 a1 a2 a3 : D} {l : List D} : idxD (.lst (a0 :: a1 :: a2 :: a3 :: l)) (.int 3) = some a3 := idx_l (i := 3) rfl
theorem i_t4 {a0 a1 a2 a3 a4 : D} {l : List D} : idxD (.tup (a0 :: a1 :: a2 :: a3 :: a4 :: l)) (.int 4) = some a4 := idx_t (i := 4) rfl
theorem i_l4 {a0 a1 a2 a3 a4 : D} {l : List D} : idxD (.lst (a0 :: a1 :: a2 :: a3 :: a4 :: l)) (.int 4) = some a4 := idx_l (i := 4) rfl
theorem i_t5 {a0 a1 a2 a3 a4 a5 : D} {l : List D} : idxD (.tup (a0 :: a1 :: a2 :: a3 :: a4 :: a5 :: l)) (.int 5) = some a5 := idx_t (i := 5) rfl
theorem i_l5 {a0 a1 a2 a3 a4 a5 : D} {l : List D} : idxD (.lst (a0 :: a1 :: a2 :: a3 :: a4 :: a5 :: l)) (.int 5) = some a5 := idx_l (i := 5) rfl
theorem al_nil : allBl [] = some [] := nr rfl
theorem al_cons {b : Bool} {l : List D} : allBl (.bl b :: l) = (allBl l).map (b :: ·) := nr rfl
theorem lt_l {a b : List D} : lstTup (.lst a) (.lst b) = true := nr rfl
theorem lt_t {a b : List D} : lstTup (.tup a) (.tup b) = true := nr rfl
theorem ps_nil : plSlots [] = [] := nr rfl
theorem ps_v {i : Nat} {l : List Pl} : plSlots (.var i :: l) = i :: plSlots l := nr rfl
theorem ps_t {d : D} {l : List Pl} : plSlots (.tmp d :: l) = plSlots l := nr rfl
theorem g_zero {α : Type} {a : α} {l : List α} : (a :: l)[0]? = some a := nr rfl
theorem g_succ {α : Type} {a : α} {l : List α} {i : Nat} : (a :: l)[i + 1]? = l[i]? := List.getElem?_cons_succ
theorem s_zero {α : Type} {a b : α} {l : List α} : (a :: l).set 0 b = b :: l := nr rfl
theorem s_succ {α : Type} {a b : α} {l : List α} {i : Nat} : (a :: l).set (i + 1) b = a :: l.set i b := nr rfl
theorem m_nil {α β : Type} {f : α → β} : [].map f = [] := nr rfl
theorem m_cons {α β : Type} {f : α → β} {a : α} {l : List α} : (a :: l).map f = f a :: l.map f := nr rfl
theorem a_nil {α : Type} {l : List α} : [] ++ l = l := nr rfl
theorem a_cons {α : Type} {a : α} {l m : List α} : (a :: l) ++ m = a :: (l ++ m) := nr rfl
theorem r_zero {α : Type} {a : α} : List.replicate 0 a = [] := nr rfl
theorem r_succ {α : Type} {a : α} {n : Nat} : List.replicate (n + 1) a = a :: List.replicate n a := nr rfl
theorem l_nil {α : Type} : ([] : List α).length = 0 := nr rfl
theorem l_cons {α : Type} {a : α} {l : List α} : (a :: l).length = l.length + 1 := nr rfl
theorem ob_some {α β : Type} {a : α} {f : α → Option β} : (some a).bind f = f a := nr rfl
theorem om_some {α β : Type} {a : α} {f : α → β} : (some a).map f = some (f a) := nr rfl
/-- a slot that holds a value, no list of ours -/
def isV : List Bd → Nat → Bool
  | .val _ :: _, 0 => true
  | _ :: l, i + 1 => isV l i
  | _, _ => false
theorem isV_z {d : D} {l : List Bd} : isV (.val d :: l) 0 = true := nr rfl
theorem isV_s {a : Bd} {l : List Bd} {i : Nat} : isV (a :: l) (i + 1) = isV l i := by cases a <;> rfl
theorem isV_eq : ∀ {l : List Bd} {i : Nat}, isV l i = true → ∃ d, l[i]? = some (.val d)
  | .val d :: _, 0, _ => ⟨d, rfl⟩
  | .un :: _, 0, h => by cases h
  | .own _ :: _, 0, h => by cases h
  | .lent _ :: _, 0, h => by cases h
  | [], _, h => by cases h
  | a :: l, i + 1, h => by
    rw [isV_s] at h
    rw [List.getElem?_cons_succ]
    exact isV_eq h
theorem z_lend1 {α β : Type} {i : Nat} {m : Ev α} {f : α → Ev β} {env : List Bd} {S : Sto} {L : List (Option D)} (h : isV env i = true) : Ev.bind (lending [i] m) f ⟨env, S, L⟩ = Ev.bind m f ⟨env, S, L⟩ := by
  obtain ⟨d, e⟩ := isV_eq h
  have e1 : lend [i] env = env := by
    unfold lend
    rw [e]
    rfl
  have e2 : ∀ env2, back env [i] env2 = env2 := fun env2 => by
    unfold back
    rw [e]
    rfl
  unfold Ev.bind lending
  show (match (match m ⟨lend [i] env, S, L⟩ with | none => none | some (x, s') => some (x, { s' with env := back env [i] s'.env })) with | none => none | some (Except.error x, s') => some (Except.error x, s') | some (Except.ok a, s') => f a s') = _
  rw [e1]
  cases m ⟨env, S, L⟩ with
  | none => rfl
  | some p =>
    simp only [e2] <;> rfl
theorem z_len0 {β : Type} {m : Ev β} {s : Sx} : lenOk ([] : List D).length m s = m s := z_len (len_small rfl)
theorem z_lenN0 {β : Type} {m : Ev β} {s : Sx} : lenOk 0 m s = m s := z_len (len_small rfl)
theorem z_len1 {β : Type} {a0 : D} {m : Ev β} {s : Sx} : lenOk [a0].length m s = m s := z_len (len_small rfl)
theorem z_lenN1 {β : Type} {m : Ev β} {s : Sx} : lenOk 1 m s = m s := z_len (len_small rfl)
theorem z_len2 {β : Type} {a0 a1 : D} {m : Ev β} {s : Sx} : lenOk [a0, a1].length m s = m s := z_len (len_small rfl)
theorem z_lenN2 {β : Type} {m : Ev β} {s : Sx} : lenOk 2 m s = m s := z_len (len_small rfl)
theorem z_len3 {β : Type} {a0 a1 a2 : D} {m : Ev β} {s : Sx} : lenOk [a0, a1, a2].length m s = m s := z_len (len_small rfl)
theorem z_lenN3 {β : Type} {m : Ev β} {s : Sx} : lenOk 3 m s = m s := z_len (len_small rfl)
theorem z_len4 {β : Type} {a0 a1 a2 a3 : D} {m : Ev β} {s : Sx} : lenOk [a0, a1, a2, a3].length m s = m s := z_len (len_small rfl)
theorem z_lenN4 {β : Type} {m : Ev β} {s : Sx} : lenOk 4 m s = m s := z_len (len_small rfl)
theorem z_len5 {β : Type} {a0 a1 a2 a3 a4 : D} {m : Ev β} {s : Sx} : lenOk [a0, a1, a2, a3, a4].length m s = m s := z_len (len_small rfl)
theorem z_lenN5 {β : Type} {m : Ev β} {s : Sx} : lenOk 5 m s = m s := z_len (len_small rfl)
theorem z_len6 {β : Type} {a0 a1 a2 a3 a4 a5 : D} {m : Ev β} {s : Sx} : lenOk [a0, a1, a2, a3, a4, a5].length m s = m s := z_len (len_small rfl)
theorem z_lenN6 {β : Type} {m : Ev β} {s : Sx} : lenOk 6 m s = m s := z_len (len_small rfl)
theorem z_len7 {β : Type} {a0 a1 a2 a3 a4 a5 a6 : D} {m : Ev β} {s : Sx} : lenOk [a0, a1, a2, a3, a4, a5, a6].length m s = m s := z_len (len_small rfl)
theorem z_lenN7 {β : Type} {m : Ev β} {s : Sx} : lenOk 7 m s = m s := z_len (len_small rfl)
theorem z_len8 {β : Type} {a0 a1 a2 a3 a4 a5 a6 a7 : D} {m : Ev β} {s : Sx} : lenOk [a0, a1, a2, a3, a4, a5, a6, a7].length m s = m s := z_len (len_small rfl)
theorem z_lenN8 {β : Type} {m : Ev β} {s : Sx} : lenOk 8 m s = m s := z_len (len_small rfl)
theorem z_len9 {β : Type} {a0 a1 a2 a3 a4 a5 a6 a7 a8 : D} {m : Ev β} {s : Sx} : lenOk [a0, a1, a2, a3, a4, a5, a6, a7, a8].length m s = m s := z_len (len_small rfl)
theorem z_lenN9 {β : Type} {m : Ev β} {s : Sx} : lenOk 9 m s = m s := z_len (len_small rfl)
theorem z_len10 {β : Type} {a0 a1 a2 a3 a4 a5 a6 a7 a8 a9 : D} {m : Ev β} {s : Sx} : lenOk [a0, a1, a2, a3, a4, a5, a6, a7, a8, a9].length m s = m s := z_len (len_small rfl)
theorem z_lenN10 {β : Type} {m : Ev β} {s : Sx} : lenOk 10 m s = m s := z_len (len_small rfl)
theorem z_len11 {β : Type} {a0 a1 a2 a3 a4 a5 a6 a7 a8 a9 a10 : D} {m : Ev β} {s : Sx} : lenOk [a0, a1, a2, a3, a4, a5, a6, a7, a8, a9, a10].length m s = m s := z_len (len_small rfl)
theorem z_lenN11 {β : Type} {m : Ev β} {s : Sx} : lenOk 11 m s = m s := z_len (len_small rfl)
theorem z_len12 {β : Type} {a0 a1 a2 a3 a4 a5 a6 a7 a8 a9 a10 a11 : D} {m : Ev β} {s : Sx} : lenOk [a0, a1, a2, a3, a4, a5, a6, a7, a8, a9, a10, a11].length m s = m s := z_len (len_small rfl)
theorem z_lenN12 {β : Type} {m : Ev β} {s : Sx} : lenOk 12 m s = m s := z_len (len_small rfl)
def ZL := And.intro @z_len0 <| And.intro @z_len1 <| And.intro @z_len2 <| And.intro @z_len3 <| And.intro @z_len4 <| And.intro @z_len5 <| And.intro @z_len6 <| And.intro @z_len7 <| And.intro @z_len8 <| And.intro @z_len9 <| And.intro @z_len10 <| And.intro @z_len11 @z_len12
/-- all equations of values -/
def Vl := And.intro @b_add <| And.intro @b_sub <| And.intro @c_lt <| And.intro @c_le <| And.intro @c_gt <| And.intro @c_ge <| And.intro @c_is_non <| And.intro @c_isn_non <| And.intro @c_is_bl <| And.intro @c_isn_bl <| And.intro @c_is_int <| And.intro @c_isn_int <| And.intro @c_is_str <| And.intro @c_isn_str <| And.intro @c_is_tup <| And.intro @c_isn_tup <| And.intro @c_is_lst <| And.intro @c_isn_lst <| And.intro @c_is_cel <| And.intro @c_isn_cel <| And.intro @c_isb <| And.intro @c_isnb <| And.intro @c_eq_int <| And.intro @c_eq_str <| And.intro @c_ne_int <| And.intro @c_ne_str <| And.intro @t_non <| And.intro @t_bl <| And.intro @t_int <| And.intro @t_tup <| And.intro @t_lst <| And.intro @d_int <| And.intro @it_lst <| And.intro @it_tup <| And.intro @it_scr <| And.intro @ty_non <| And.intro @ty_bl <| And.intro @ty_int <| And.intro @ty_str <| And.intro @ty_tup <| And.intro @ty_lst <| And.intro @ty_cel <| And.intro @is_non0 <| And.intro @is_non1 <| And.intro @is_non2 <| And.intro @is_non3 <| And.intro @is_non4 <| And.intro @is_non5 <| And.intro @is_non6 <| And.intro @is_non7 <| And.intro @is_bl0 <| And.intro @is_bl1 <| And.intro @is_bl2 <| And.intro @is_bl3 <| And.intro @is_bl4 <| And.intro @is_bl5 <| And.intro @is_bl6 <| And.intro @is_bl7 <| And.intro @is_int0 <| And.intro @is_int1 <| And.intro @is_int2 <| And.intro @is_int3 <| And.intro @is_int4 <| And.intro @is_int5 <| And.intro @is_int6 <| And.intro @is_int7 <| And.intro @is_str0 <| And.intro @is_str1 <| And.intro @is_str2 <| And.intro @is_str3 <| And.intro @is_str4 <| And.intro @is_str5 <| And.intro @is_str6 <| And.intro @is_str7 <| And.intro @is_tup0 <| And.intro @is_tup1 <| And.intro @is_tup2 <| And.intro @is_tup3 <| And.intro @is_tup4 <| And.intro @is_tup5 <| And.intro @is_tup6 <| And.intro @is_tup7 <| And.intro @is_lst0 <| And.intro @is_lst1 <| And.intro @is_lst2 <| And.intro @is_lst3 <| And.intro @is_lst4 <| And.intro @is_lst5 <| And.intro @is_lst6 <| And.intro @is_lst7 <| And.intro @is_cel0 <| And.intro @is_cel1 <| And.intro @is_cel2 <| And.intro @is_cel3 <| And.intro @is_cel4 <| And.intro @is_cel5 <| And.intro @is_cel6 <| And.intro @is_cel7 <| And.intro @f_len_tup <| And.intro @f_len_lst <| And.intro @f_len_scr <| And.intro @f_abs <| And.intro @f_int <| And.intro @f_intb <| And.intro @f_list_tup <| And.intro @f_list_lst <| And.intro @f_list_scr <| And.intro @f_tuple_tup <| And.intro @f_tuple_lst <| And.intro @f_gcd <| And.intro @f_max <| And.intro @f_min <| And.intro @i_t0 <| And.intro @i_l0 <| And.intro @i_t1 <| And.intro @i_l1 <| And.intro @i_t2 <| And.intro @i_l2 <| And.intro @i_t3 <| And.intro @i_l3 <| And.intro @i_t4 <| And.intro @i_l4 <| And.intro @i_t5 <| And.intro @i_l5 <| And.intro @al_nil <| And.intro @al_cons <| And.intro @lt_l <| And.intro @lt_t <| And.intro @ps_nil <| And.intro @ps_v <| And.intro @ps_t <| And.intro @setE_v <| And.intro @setE_u <| And.intro @setE_o <| And.intro @setE_s <| And.intro @rbd_v <| And.intro @rbd_f <| And.intro @z_dv <| And.intro @z_df <| And.intro @g_zero <| And.intro @g_succ <| And.intro @s_zero <| And.intro @s_succ <| And.intro @m_nil <| And.intro @m_cons <| And.intro @a_nil <| And.intro @a_cons <| And.intro @r_zero <| And.intro @r_succ <| And.intro @l_nil <| And.intro @l_cons <| And.intro @ob_some <| And.intro @om_some <| And.intro @fin_ok <| And.intro @isV_z <| And.intro @isV_s <| And.intro @z_lenN0 <| And.intro @z_lenN1 <| And.intro @z_lenN2 <| And.intro @z_lenN3 <| And.intro @z_lenN4 <| And.intro @z_lenN5 <| And.intro @z_lenN6 <| And.intro @z_lenN7 <| And.intro @z_lenN8 <| And.intro @z_lenN9 <| And.intro @z_lenN10 <| And.intro @z_lenN11 @z_lenN12
end Rf
/-! Rq: the pen, the ratios -/
namespace Rf
open PySem PySem.Spec L2
namespace Lb
def df_is_whole : Df := ⟨["value"], 1, [(.ret (.and (.isi (.var 0) ["int"]) (.nt (.isi (.var 0) ["bool"]))))]⟩
def df_is_pair : Df := ⟨["value"], 1, [(.iff (.or (.nt (.isi (.var 0) ["tuple", "list"])) (.cmp .NotEq (.bi .len [(.var 0)]) (.cst (.int 2)))) [(.ret (.cst (.bl false)))] []), (.ret (.and (.call "is_whole" [(.idx (.var 0) (.cst (.int 0)))]) (.and (.call "is_whole" [(.idx (.var 0) (.cst (.int 1)))]) (.cmp .Gt (.idx (.var 0) (.cst (.int 1))) (.cst (.int 0))))))]⟩
def df_is_ratio : Df := ⟨["value"], 1, [(.ret (.or (.call "is_whole" [(.var 0)]) (.and (.isi (.var 0) ["tuple"]) (.call "is_pair" [(.var 0)]))))]⟩
def df_lowest : Df := ⟨["top", "bottom"], 3, [(.set (.nm 2) (.ite (.cmp .Gt (.var 1) (.cst (.int 0))) (.bi .gcd [(.var 0), (.var 1)]) (.neg (.bi .gcd [(.var 0), (.var 1)])))), (.ret (.tup [(.bin .FloorDiv (.var 0) (.var 2)), (.bin .FloorDiv (.var 1) (.var 2))]))]⟩
def df_told : Df := ⟨["ratio"], 1, [(.iff (.call "is_whole" [(.var 0)]) [(.ret (.tup [(.var 0), (.cst (.int 1))]))] []), (.iff (.nt (.call "is_pair" [(.var 0)])) [(.rse "BadRow" [(.var 0)])] []), (.ret (.call "lowest" [(.idx (.var 0) (.cst (.int 0))), (.idx (.var 0) (.cst (.int 1)))]))]⟩
def df_summed : Df := ⟨["one", "other"], 2, [(.ret (.call "lowest" [(.bin .Add (.bin .Mult (.idx (.var 0) (.cst (.int 0))) (.idx (.var 1) (.cst (.int 1)))) (.bin .Mult (.idx (.var 1) (.cst (.int 0))) (.idx (.var 0) (.cst (.int 1))))), (.bin .Mult (.idx (.var 0) (.cst (.int 1))) (.idx (.var 1) (.cst (.int 1))))]))]⟩
def df_lessened : Df := ⟨["one", "other"], 2, [(.ret (.call "lowest" [(.bin .Sub (.bin .Mult (.idx (.var 0) (.cst (.int 0))) (.idx (.var 1) (.cst (.int 1)))) (.bin .Mult (.idx (.var 1) (.cst (.int 0))) (.idx (.var 0) (.cst (.int 1))))), (.bin .Mult (.idx (.var 0) (.cst (.int 1))) (.idx (.var 1) (.cst (.int 1))))]))]⟩
def df_scaled : Df := ⟨["one", "other"], 2, [(.ret (.call "lowest" [(.bin .Mult (.idx (.var 0) (.cst (.int 0))) (.idx (.var 1) (.cst (.int 0)))), (.bin .Mult (.idx (.var 0) (.cst (.int 1))) (.idx (.var 1) (.cst (.int 1))))]))]⟩
def df_parted : Df := ⟨["one", "other"], 2, [(.ret (.call "lowest" [(.bin .Mult (.idx (.var 0) (.cst (.int 0))) (.idx (.var 1) (.cst (.int 1)))), (.bin .Mult (.idx (.var 0) (.cst (.int 1))) (.idx (.var 1) (.cst (.int 0))))]))]⟩
def df_below : Df := ⟨["one", "other"], 2, [(.ret (.cmp .Lt (.bin .Mult (.idx (.var 0) (.cst (.int 0))) (.idx (.var 1) (.cst (.int 1)))) (.bin .Mult (.idx (.var 1) (.cst (.int 0))) (.idx (.var 0) (.cst (.int 1))))))]⟩
def df_plus : Df := ⟨["one", "other"], 4, [(.par [2, 3] [(.call "told" [(.var 0)]), (.call "told" [(.var 1)])]), (.ret (.call "summed" [(.var 2), (.var 3)]))]⟩
def df_minus : Df := ⟨["one", "other"], 4, [(.par [2, 3] [(.call "told" [(.var 0)]), (.call "told" [(.var 1)])]), (.ret (.call "lessened" [(.var 2), (.var 3)]))]⟩
def df_times : Df := ⟨["one", "other"], 4, [(.par [2, 3] [(.call "told" [(.var 0)]), (.call "told" [(.var 1)])]), (.ret (.call "scaled" [(.var 2), (.var 3)]))]⟩
def df_share : Df := ⟨["one", "other"], 4, [(.par [2, 3] [(.call "told" [(.var 0)]), (.call "told" [(.var 1)])]), (.iff (.cmp .Eq (.idx (.var 3) (.cst (.int 0))) (.cst (.int 0))) [(.rse "BadNumber" [(.cst (.str "share")), (.cst (.int 0))])] []), (.ret (.call "parted" [(.var 2), (.var 3)]))]⟩
def df_less : Df := ⟨["one", "other"], 4, [(.par [2, 3] [(.call "told" [(.var 0)]), (.call "told" [(.var 1)])]), (.ret (.call "below" [(.var 2), (.var 3)]))]⟩
def df__law_pen : Df := ⟨["script"], 3, [(.set (.nm 1) (.cst (.int 0))), (.for_ [2] true (.var 0) [(.set (.nm 1) (.bin .Mod (.bi .int [(.bin .Add (.bin .Mult (.var 1) (.cst (.int 181))) (.var 2))]) (.cst (.int 999999163))))]), (.ret (.dic ["cells", "at", "digits", "count", "fold"] [(.bi .list [(.var 0)]), (.cst (.int 0)), (.cst (.int 0)), (.cst (.int 0)), (.var 1)]))]⟩
def df__law_draw : Df := ⟨["pen", "many"], 5, [(.set (.ky (.var 0) "count") (.bin .Add (.key (.var 0) "count") (.cst (.int 1)))), (.iff (.and (.cmp .Eq (.key (.var 0) "digits") (.cst (.int 0))) (.cmp .Lt (.key (.var 0) "at") (.bi .len [(.key (.var 0) "cells")]))) [(.set (.nm 2) (.idx (.key (.var 0) "cells") (.key (.var 0) "at"))), (.set (.ky (.var 0) "at") (.bin .Add (.key (.var 0) "at") (.cst (.int 1)))), (.iff (.cmp .GtE (.var 2) (.bin .Pow (.cst (.int 10)) (.cst (.int 18)))) [(.set (.ky (.var 0) "digits") (.bin .Sub (.var 2) (.bin .Pow (.cst (.int 10)) (.cst (.int 18)))))] [(.set (.ky (.var 0) "fold") (.bin .Mod (.bi .int [(.bin .Add (.bin .Mult (.key (.var 0) "fold") (.cst (.int 29009))) (.var 2))]) (.cst (.int 2147482937))))])] []), (.iff (.cmp .Gt (.key (.var 0) "digits") (.cst (.int 0))) [(.set (.nm 3) (.bin .Mod (.bi .int [(.key (.var 0) "digits")]) (.var 1))), (.set (.ky (.var 0) "digits") (.bin .FloorDiv (.key (.var 0) "digits") (.var 1))), (.ret (.var 3))] []), (.set (.nm 4) (.bin .Add (.bin .Add (.key (.var 0) "fold") (.bin .Mult (.key (.var 0) "count") (.cst (.int 6211)))) (.cst (.int 179)))), (.ret (.bin .Mod (.bin .FloorDiv (.bi .int [(.bin .Mod (.bin .Pow (.var 4) (.cst (.int 57))) (.cst (.int 2305843009213693951)))]) (.cst (.int 1024))) (.var 1)))]⟩
def df__law_pick : Df := ⟨["pen", "some"], 2, [(.ret (.idx (.var 1) (.call "_law_draw" [(.var 0), (.bi .len [(.var 1)])])))]⟩
def df__law_gcd : Df := ⟨["one", "two"], 3, [(.par [0, 1] [(.bi .abs [(.var 0)]), (.bi .abs [(.var 1)])]), (.for_ [2] true (.rng (.bin .Add (.cst (.int 4)) (.bin .Mult (.cst (.int 2)) (.bits (.bi .int [(.var 1)]))))) [(.iff (.cmp .Eq (.var 1) (.cst (.int 0))) [.brk] []), (.par [0, 1] [(.var 1), (.bin .Mod (.bi .int [(.var 0)]) (.var 1))])]), (.ret (.var 0))]⟩
def df__law_q : Df := ⟨["top", "bottom"], 3, [(.set (.nm 2) (.call "_law_gcd" [(.var 0), (.var 1)])), (.set (.nm 2) (.ite (.cmp .Lt (.var 1) (.cst (.int 0))) (.neg (.var 2)) (.var 2))), (.ret (.tup [(.bin .FloorDiv (.var 0) (.var 2)), (.bin .FloorDiv (.var 1) (.var 2))]))]⟩
def df__law_plus : Df := ⟨["one", "two"], 2, [(.ret (.call "_law_q" [(.bin .Add (.bin .Mult (.idx (.var 0) (.cst (.int 0))) (.idx (.var 1) (.cst (.int 1)))) (.bin .Mult (.idx (.var 1) (.cst (.int 0))) (.idx (.var 0) (.cst (.int 1))))), (.bin .Mult (.idx (.var 0) (.cst (.int 1))) (.idx (.var 1) (.cst (.int 1))))]))]⟩
def df__law_times : Df := ⟨["one", "two"], 2, [(.ret (.call "_law_q" [(.bin .Mult (.idx (.var 0) (.cst (.int 0))) (.idx (.var 1) (.cst (.int 0)))), (.bin .Mult (.idx (.var 0) (.cst (.int 1))) (.idx (.var 1) (.cst (.int 1))))]))]⟩
def df__law_less : Df := ⟨["one", "two"], 2, [(.ret (.cmp .Lt (.bin .Mult (.idx (.var 0) (.cst (.int 0))) (.idx (.var 1) (.cst (.int 1)))) (.bin .Mult (.idx (.var 1) (.cst (.int 0))) (.idx (.var 0) (.cst (.int 1))))))]⟩
def df__law_minus : Df := ⟨["one", "two"], 2, [(.ret (.call "_law_q" [(.bin .Sub (.bin .Mult (.idx (.var 0) (.cst (.int 0))) (.idx (.var 1) (.cst (.int 1)))) (.bin .Mult (.idx (.var 1) (.cst (.int 0))) (.idx (.var 0) (.cst (.int 1))))), (.bin .Mult (.idx (.var 0) (.cst (.int 1))) (.idx (.var 1) (.cst (.int 1))))]))]⟩
def df__law_share : Df := ⟨["one", "two"], 2, [(.ret (.call "_law_q" [(.bin .Mult (.idx (.var 0) (.cst (.int 0))) (.idx (.var 1) (.cst (.int 1)))), (.bin .Mult (.idx (.var 0) (.cst (.int 1))) (.idx (.var 1) (.cst (.int 0))))]))]⟩
def df__law_handed : Df := ⟨["pen", "ratio"], 3, [(.iff (.and (.cmp .Eq (.idx (.var 1) (.cst (.int 1))) (.cst (.int 1))) (.cmp .Eq (.call "_law_draw" [(.var 0), (.cst (.int 2))]) (.cst (.int 0)))) [(.ret (.idx (.var 1) (.cst (.int 0))))] []), (.set (.nm 2) (.call "_law_pick" [(.var 0), (.lst [(.cst (.int 1)), (.cst (.int 1)), (.cst (.int 2)), (.cst (.int 5))])])), (.ret (.call "_law_pick" [(.var 0), (.lst [(.tup [(.bin .Mult (.idx (.var 1) (.cst (.int 0))) (.var 2)), (.bin .Mult (.idx (.var 1) (.cst (.int 1))) (.var 2))]), (.lst [(.bin .Mult (.idx (.var 1) (.cst (.int 0))) (.var 2)), (.bin .Mult (.idx (.var 1) (.cst (.int 1))) (.var 2))])])]))]⟩
def df__law_fault : Df := ⟨["action"], 2, [(.try_ [(.ex (.callv0 0)), (.ret (.cst .non))] [("BadText", 1, [.inl "text", .inr "line", .inr "column"]), ("BadNumber", 1, [.inl "number", .inr "what", .inr "number"]), ("BadRow", 1, [.inl "row", .inr "row"]), ("TooMany", 1, [.inl "many", .inr "what", .inr "many", .inr "limit"]), ("Unlike", 1, [.inl "unlike", .inr "what"])])]⟩
def df__law_number : Df := ⟨["pen", "most"], 3, [(.set (.nm 2) (.bin .Sub (.call "_law_draw" [(.var 0), (.bin .Add (.bin .Mult (.cst (.int 2)) (.var 1)) (.cst (.int 1)))]) (.var 1))), (.ret (.call "_law_q" [(.var 2), (.call "_law_pick" [(.var 0), (.lst [(.cst (.int 1)), (.cst (.int 1)), (.cst (.int 1)), (.cst (.int 2)), (.cst (.int 3))])])]))]⟩
end Lb
/-! ### the pen -/
structure Pen where
  cs : List Int
  at_ : Nat
  dg : Int
  ct : Nat
  fo : Int
def Pen.c (p : Pen) : List (Str × D) := [("cells", .lst (p.cs.map .int)), ("at", .int p.at_), ("digits", .int p.dg), ("count", .int p.ct), ("fold", .int p.fo)]
structure Pen.Ok (p : Pen) : Prop where
  cs : ∀ z ∈ p.cs, Sm 1048577 z
  dg : 0 ≤ p.dg
  dg2 : Sm 1048577 p.dg
  fo : 0 ≤ p.fo
  fo2 : p.fo < 2147482937
theorem pen_cells {p : Pen} : List.lookup ("cells" : Str) p.c = some (.lst (p.cs.map .int)) := rfl
theorem pen_at {p : Pen} : List.lookup ("at" : Str) p.c = some (.int p.at_) := rfl
theorem pen_digits {p : Pen} : List.lookup ("digits" : Str) p.c = some (.int p.dg) := rfl
theorem pen_count {p : Pen} : List.lookup ("count" : Str) p.c = some (.int p.ct) := rfl
theorem pen_fold {p : Pen} : List.lookup ("fold" : Str) p.c = some (.int p.fo) := rfl
theorem put_at {p : Pen} {n : Nat} : kvPut p.c "at" (.int ((n : Int) + 1)) = ({ p with at_ := n + 1 } : Pen).c := rfl
theorem put_digits {p : Pen} {n : Int} : kvPut p.c "digits" (.int n) = ({ p with dg := n } : Pen).c := rfl
theorem put_count {p : Pen} {n : Nat} : kvPut p.c "count" (.int ((n : Int) + 1)) = ({ p with ct := n + 1 } : Pen).c := rfl
theorem put_fold {p : Pen} {n : Int} : kvPut p.c "fold" (.int n) = ({ p with fo := n } : Pen).c := rfl
theorem pen_len {p : Pen} : p.c.length < line := by show 5 < 16777216; decide
/-- the next number told, then the pen that has told it -/
def Pen.more (p : Pen) : Pen :=
  if p.dg = 0 ∧ p.at_ < p.cs.length then
    (if 10 ^ 18 ≤ p.cs.getD p.at_ 0 then { p with ct := p.ct + 1, at_ := p.at_ + 1, dg := p.cs.getD p.at_ 0 - 10 ^ 18 }
    else { p with ct := p.ct + 1, at_ := p.at_ + 1, fo := (p.fo * 29009 + p.cs.getD p.at_ 0).fmod 2147482937 })
  else { p with ct := p.ct + 1 }
theorem fmod_nn {a b : Int} (h : 0 < b) : 0 ≤ a.fmod b := by
  rw [Int.fmod_eq_emod_of_nonneg a (Int.le_of_lt h)]
  exact Int.emod_nonneg a (by omega)
theorem fmod_lt {a b : Int} (h : 0 < b) : a.fmod b < b := by
  rw [Int.fmod_eq_emod_of_nonneg a (Int.le_of_lt h)]
  exact Int.emod_lt_of_pos a h
theorem Sm.fdiv {k : Nat} {a b : Int} (h : Sm k a) (g : 0 ≤ a) (i : 0 < b) : 0 ≤ a.fdiv b ∧ Sm k (a.fdiv b) := by
  rw [Int.fdiv_eq_ediv_of_nonneg a (Int.le_of_lt i)]
  have z : 0 ≤ a / b := Int.ediv_nonneg g (Int.le_of_lt i)
  refine ⟨z, h.le ?_⟩
  have z2 : a / b ≤ a := Int.ediv_le_self b g
  omega
theorem Pen.Ok.cell {p : Pen} (h : p.Ok) {i : Nat} (hi : i < p.cs.length) : Sm 1048577 (p.cs.getD i 0) := by
  rw [List.getD_eq_getElem?_getD, List.getElem?_eq_getElem hi]
  exact h.cs _ (List.getElem_mem hi)
theorem Pen.Ok.more {p : Pen} (h : p.Ok) : p.more.Ok := by
  unfold Pen.more
  split
  · rename_i g
    have hc := h.cell g.2
    split
    · rename_i l
      refine ⟨h.cs, ?_, ?_, h.fo, h.fo2⟩
      · show 0 ≤ p.cs.getD p.at_ 0 - 10 ^ 18
        omega
      · show Sm _ (p.cs.getD p.at_ 0 - 10 ^ 18)
        exact hc.le (by omega)
    · exact ⟨h.cs, h.dg, h.dg2, fmod_nn (by decide), fmod_lt (by decide)⟩
  · exact ⟨h.cs, h.dg, h.dg2, h.fo, h.fo2⟩
theorem Pen.more_ct {p : Pen} : p.more.ct = p.ct + 1 := by
  unfold Pen.more
  split
  · split <;> rfl
  · rfl
structure HasPen (P : Prg) : Prop where
  af : P.af = 60
  draw : P.defs.lookup ("_law_draw" : Str) = some Lb.df__law_draw
  pick : P.defs.lookup ("_law_pick" : Str) = some Lb.df__law_pick
theorem idx_cells {p : Pen} {i : Nat} (hi : i < p.cs.length) : idxD (.lst (p.cs.map .int)) (.int i) = some (.int (p.cs.getD i 0)) := by
  refine idx_l ?_
  rw [List.getElem?_map, List.getElem?_eq_getElem hi, List.getD_eq_getElem?_getD, List.getElem?_eq_getElem hi]
  rfl
theorem getD_def {p : Pen} : (p.cs.map D.int).length = p.cs.length := List.length_map _
def drawF (q : Pen) (m : Int) : Int := if 0 < q.dg then q.dg.fmod m else ((((q.fo + (q.ct : Int) * 6211 + 179) ^ 57).fmod 2305843009213693951).fdiv 1024).fmod m
def drawP (q : Pen) (m : Int) : Pen := if 0 < q.dg then { q with dg := q.dg.fdiv m } else q
theorem draw_eq {P : Prg} {k : Nat} {p : Pen} {m : Int} {L : List (Option D)} {S : Sto} (H : HasPen P) (h : p.Ok) (hc : p.ct < 2 ^ 40) (m0 : 0 < m) (m1 : Sm 8000 m) :
    callN P (k + 1) "_law_draw" [.cel 0, .int m] L (p.c :: S) = some (.ok (.val (.int (drawF p.more m))), (drawP p.more m).c :: S) := by
  refine call_rt H.draw rfl ?_
  have mne : m ≠ 0 := by omega
  have hm := h.more
  have hc2 : p.more.ct ≤ 2 ^ 40 := by rw [Pen.more_ct]; omega
  have e2 : (p.more.fo + (p.more.ct : Int) * 6211 + 179).natAbs < 2 ^ 64 := by have := hm.fo; have := hm.fo2; omega
  have pw : binop .Pow (.int 10) (.int 18) = some (.val (.int (10 ^ 18))) := b_pow ⟨by decide, by decide, by decide⟩
  have mf : binop .Mult (.int p.fo) (.int 29009) = some (.val (.int (p.fo * 29009))) := b_mulS (Nat.lt_of_lt_of_le (m := 2 ^ 32) (by have := h.fo; have := h.fo2; omega) (Nat.pow_le_pow_right (by decide) (by decide))) (Nat.lt_of_lt_of_le (m := 2 ^ 32) (by decide) (Nat.pow_le_pow_right (by decide) (by decide)))
  have mc : binop .Mult (.int ((p.ct : Int) + 1)) (.int 6211) = some (.val (.int (((p.ct : Int) + 1) * 6211))) := b_mulS (Nat.lt_of_lt_of_le (m := 2 ^ 42) (by omega) (Nat.pow_le_pow_right (by decide) (by decide))) (Nat.lt_of_lt_of_le (m := 2 ^ 32) (by decide) (Nat.pow_le_pow_right (by decide) (by decide)))
  have k1 : (2305843009213693951 : Int) ≠ 0 := by decide
  have k2 : (1024 : Int) ≠ 0 := by decide
  have k3 : Sm 8000 1024 := Sm.mono (show Sm 11 1024 by unfold Sm; decide) (by decide)
  have k4 : (2147482937 : Int) ≠ 0 := by decide
  by_cases g1 : p.dg = 0
  · by_cases g2 : p.at_ < p.cs.length
    · by_cases l : 10 ^ 18 ≤ p.cs.getD p.at_ 0
      · have e : p.more = { p with ct := p.ct + 1, at_ := p.at_ + 1, dg := p.cs.getD p.at_ 0 - 10 ^ 18 } := by unfold Pen.more; rw [if_pos ⟨g1, g2⟩, if_pos l]
        rw [e] at e2 ⊢
        have pq := b_pow ⟨(by decide : (0:Int) ≤ 57), (by decide : (57:Int) ≤ 1000000), e2⟩
        simp only [Int.natCast_add, Int.cast_ofNat_Int] at pq
        by_cases z : 0 < ({ p with ct := p.ct + 1, at_ := p.at_ + 1, dg := p.cs.getD p.at_ 0 - 10 ^ 18 } : Pen).dg
        · simp only at z
          simp only [Lb.df__law_draw, H.af, ↓Z, Vl, Nat.reduceAdd, Nat.reduceSub, ↓reduceIte, pen_cells, pen_at, pen_digits, pen_count, pen_fold, put_at, put_digits, put_count, put_fold, pen_len, getD_def, Int.ofNat_lt, pw, mf, decide_true, decide_false, drawF, drawP, b_mod mne, b_div mne m1, z_kok, mc, b_mod k1, b_div k2 k3, b_mod k4, Int.reduceToNat, Int.lt_irrefl, if_false, g1, g2, idx_cells g2, l, z, pq, Int.natCast_add, Int.cast_ofNat_Int]
        · simp only at z
          simp only [Lb.df__law_draw, H.af, ↓Z, Vl, Nat.reduceAdd, Nat.reduceSub, ↓reduceIte, pen_cells, pen_at, pen_digits, pen_count, pen_fold, put_at, put_digits, put_count, put_fold, pen_len, getD_def, Int.ofNat_lt, pw, mf, decide_true, decide_false, drawF, drawP, b_mod mne, b_div mne m1, z_kok, mc, b_mod k1, b_div k2 k3, b_mod k4, Int.reduceToNat, Int.lt_irrefl, if_false, g1, g2, idx_cells g2, l, z, pq, Int.natCast_add, Int.cast_ofNat_Int]
      · have e : p.more = { p with ct := p.ct + 1, at_ := p.at_ + 1, fo := (p.fo * 29009 + p.cs.getD p.at_ 0).fmod 2147482937 } := by unfold Pen.more; rw [if_pos ⟨g1, g2⟩, if_neg l]
        rw [e] at e2 ⊢
        have pq := b_pow ⟨(by decide : (0:Int) ≤ 57), (by decide : (57:Int) ≤ 1000000), e2⟩
        simp only [Int.natCast_add, Int.cast_ofNat_Int] at pq
        by_cases z : 0 < ({ p with ct := p.ct + 1, at_ := p.at_ + 1, fo := (p.fo * 29009 + p.cs.getD p.at_ 0).fmod 2147482937 } : Pen).dg
        · simp only at z
          simp only [Lb.df__law_draw, H.af, ↓Z, Vl, Nat.reduceAdd, Nat.reduceSub, ↓reduceIte, pen_cells, pen_at, pen_digits, pen_count, pen_fold, put_at, put_digits, put_count, put_fold, pen_len, getD_def, Int.ofNat_lt, pw, mf, decide_true, decide_false, drawF, drawP, b_mod mne, b_div mne m1, z_kok, mc, b_mod k1, b_div k2 k3, b_mod k4, Int.reduceToNat, Int.lt_irrefl, if_false, g1, g2, idx_cells g2, l, z, pq, Int.natCast_add, Int.cast_ofNat_Int]
        · simp only at z
          simp only [Lb.df__law_draw, H.af, ↓Z, Vl, Nat.reduceAdd, Nat.reduceSub, ↓reduceIte, pen_cells, pen_at, pen_digits, pen_count, pen_fold, put_at, put_digits, put_count, put_fold, pen_len, getD_def, Int.ofNat_lt, pw, mf, decide_true, decide_false, drawF, drawP, b_mod mne, b_div mne m1, z_kok, mc, b_mod k1, b_div k2 k3, b_mod k4, Int.reduceToNat, Int.lt_irrefl, if_false, g1, g2, idx_cells g2, l, z, pq, Int.natCast_add, Int.cast_ofNat_Int]
    · have e : p.more = { p with ct := p.ct + 1 } := by unfold Pen.more; rw [if_neg fun y => g2 y.2]
      rw [e] at e2 ⊢
      have pq := b_pow ⟨(by decide : (0:Int) ≤ 57), (by decide : (57:Int) ≤ 1000000), e2⟩
      simp only [Int.natCast_add, Int.cast_ofNat_Int] at pq
      by_cases z : 0 < ({ p with ct := p.ct + 1 } : Pen).dg
      · simp only at z
        simp only [Lb.df__law_draw, H.af, ↓Z, Vl, Nat.reduceAdd, Nat.reduceSub, ↓reduceIte, pen_cells, pen_at, pen_digits, pen_count, pen_fold, put_at, put_digits, put_count, put_fold, pen_len, getD_def, Int.ofNat_lt, pw, mf, decide_true, decide_false, drawF, drawP, b_mod mne, b_div mne m1, z_kok, mc, b_mod k1, b_div k2 k3, b_mod k4, Int.reduceToNat, Int.lt_irrefl, if_false, g1, g2, z, pq, Int.natCast_add, Int.cast_ofNat_Int]
      · simp only at z
        simp only [Lb.df__law_draw, H.af, ↓Z, Vl, Nat.reduceAdd, Nat.reduceSub, ↓reduceIte, pen_cells, pen_at, pen_digits, pen_count, pen_fold, put_at, put_digits, put_count, put_fold, pen_len, getD_def, Int.ofNat_lt, pw, mf, decide_true, decide_false, drawF, drawP, b_mod mne, b_div mne m1, z_kok, mc, b_mod k1, b_div k2 k3, b_mod k4, Int.reduceToNat, Int.lt_irrefl, if_false, g1, g2, z, pq, Int.natCast_add, Int.cast_ofNat_Int]
  · have e : p.more = { p with ct := p.ct + 1 } := by unfold Pen.more; rw [if_neg fun y => g1 y.1]
    rw [e] at e2 ⊢
    have pq := b_pow ⟨(by decide : (0:Int) ≤ 57), (by decide : (57:Int) ≤ 1000000), e2⟩
    simp only [Int.natCast_add, Int.cast_ofNat_Int] at pq
    by_cases z : 0 < ({ p with ct := p.ct + 1 } : Pen).dg
    · simp only at z
      simp only [Lb.df__law_draw, H.af, ↓Z, Vl, Nat.reduceAdd, Nat.reduceSub, ↓reduceIte, pen_cells, pen_at, pen_digits, pen_count, pen_fold, put_at, put_digits, put_count, put_fold, pen_len, getD_def, Int.ofNat_lt, pw, mf, decide_true, decide_false, drawF, drawP, b_mod mne, b_div mne m1, z_kok, mc, b_mod k1, b_div k2 k3, b_mod k4, Int.reduceToNat, Int.lt_irrefl, if_false, g1, z, pq, Int.natCast_add, Int.cast_ofNat_Int]
    · simp only at z
      simp only [Lb.df__law_draw, H.af, ↓Z, Vl, Nat.reduceAdd, Nat.reduceSub, ↓reduceIte, pen_cells, pen_at, pen_digits, pen_count, pen_fold, put_at, put_digits, put_count, put_fold, pen_len, getD_def, Int.ofNat_lt, pw, mf, decide_true, decide_false, drawF, drawP, b_mod mne, b_div mne m1, z_kok, mc, b_mod k1, b_div k2 k3, b_mod k4, Int.reduceToNat, Int.lt_irrefl, if_false, g1, z, pq, Int.natCast_add, Int.cast_ofNat_Int]
theorem draw_facts {p : Pen} {m : Int} (h : p.Ok) (m0 : 0 < m) : (drawP p.more m).Ok ∧ (drawP p.more m).ct = p.ct + 1 ∧ 0 ≤ drawF p.more m ∧ drawF p.more m < m := by
  have hm := h.more
  unfold drawP drawF
  split
  · rename_i z
    have q := Sm.fdiv hm.dg2 hm.dg m0
    exact ⟨⟨hm.cs, q.1, q.2, hm.fo, hm.fo2⟩, Pen.more_ct, fmod_nn m0, fmod_lt m0⟩
  · exact ⟨hm, Pen.more_ct, fmod_nn m0, fmod_lt m0⟩
/-- a number drawn -/
theorem draw_ok {P : Prg} {k : Nat} {p : Pen} {m : Int} (L : List (Option D)) (S : Sto) (H : HasPen P) (h : p.Ok) (hc : p.ct < 2 ^ 40) (m0 : 0 < m) (m1 : Sm 8000 m) :
    ∃ (d : Int) (q : Pen), callN P (k + 1) "_law_draw" [.cel 0, .int m] L (p.c :: S) = some (.ok (.val (.int d)), q.c :: S) ∧ q.Ok ∧ q.ct = p.ct + 1 ∧ 0 ≤ d ∧ d < m :=
  let ⟨a, b, c, d⟩ := draw_facts (m := m) h m0
  ⟨_, _, draw_eq H h hc m0 m1, a, b, c, d⟩
theorem z_run {α β : Type} {m : Ev α} {f : α → Ev β} {s s2 : Sx} {x : α} (h : m s = some (.ok x, s2)) : Ev.bind m f s = f x s2 := by
  unfold Ev.bind
  rw [h]
/-- an item picked -/
theorem pick_lst {P : Prg} {k : Nat} {p : Pen} {xs : List D} (L : List (Option D)) (S : Sto) (H : HasPen P) (h : p.Ok) (hc : p.ct < 2 ^ 40) (x0 : xs ≠ []) (x1 : xs.length ≤ 2 ^ 60) :
    ∃ (x : D) (q : Pen), callN P (k + 2) "_law_pick" [.cel 0, .lst xs] L (p.c :: S) = some (.ok (.val x), q.c :: S) ∧ q.Ok ∧ q.ct = p.ct + 1 ∧ x ∈ xs := by
  have l0 : 0 < xs.length := List.length_pos_iff.mpr x0
  obtain ⟨d, q, e, q1, q2, d1, d2⟩ := draw_ok (P := P) (k := k) (m := (xs.length : Int)) L S H h hc (by omega) (Sm.mono (k := 8000) (j := 61) (by unfold Sm; omega) (by decide))
  obtain ⟨i, rfl⟩ := Int.eq_ofNat_of_zero_le d1
  have hi : i < xs.length := by omega
  have ei := idx_l (List.getElem?_eq_getElem hi)
  refine ⟨xs[i], q, call_rt H.pick rfl ?_, q1, q2, List.getElem_mem hi⟩
  simp only [Lb.df__law_pick, H.af, ↓Z, Vl, Nat.reduceAdd, Nat.reduceSub, ↓z_callSD e, ei, z_kok]
end Rf
/-! Rr: ratios -/
namespace Rf
open PySem PySem.Spec L2
structure HasQ (P : Prg) : Prop where
  af : P.af = 60
  gcd : P.defs.lookup ("_law_gcd" : Str) = some Lb.df__law_gcd
  q : P.defs.lookup ("_law_q" : Str) = some Lb.df__law_q
abbrev gcdBody : List J := [(.iff (.cmp .Eq (.var 1) (.cst (.int 0))) [.brk] []), (.par [0, 1] [(.var 1), (.bin .Mod (.bi .int [(.var 0)]) (.var 1))])]
theorem fmod_nat {a b : Nat} : Int.fmod (a : Int) (b : Int) = ((a % b : Nat) : Int) := by
  rw [Int.fmod_eq_emod_of_nonneg _ (Int.natCast_nonneg b)]
  exact (Int.natCast_emod a b).symm
theorem gcd_step {P : Prg} {k a b : Nat} {d : D} {x : Bd} {ds : List D} {L : List (Option D)} {S : Sto} (hx : ∀ b, setE [x] 0 b = some [b]) (h : b ≠ 0) :
    forL [2] true (sL (ev P (callN P k) 59) gcdBody) (d :: ds) ⟨[.val (.int a), .val (.int b), x], S, L⟩ = forL [2] true (sL (ev P (callN P k) 59) gcdBody) ds ⟨[.val (.int b), .val (.int (a % b : Nat)), .val d], S, L⟩ := by
  have b0 : (b : Int) ≠ 0 := by omega
  have md := b_mod (a := (a : Int)) b0
  rw [fmod_nat] at md
  rw [← z_end (m := forL _ _ _ (d :: ds)), ← z_end (m := forL _ _ _ ds)]
  simp only [gcdBody, ↓Z, Vl, hx, b0, decide_false, ↓reduceIte, md]
theorem gcd_zero {P : Prg} {k a : Nat} {x : Bd} {ds : List D} {L : List (Option D)} {S : Sto} (hx : ∀ b, setE [x] 0 b = some [b]) :
    ∃ env, forL [2] true (sL (ev P (callN P k) 59) gcdBody) ds ⟨[.val (.int a), .val (.int (0 : Nat)), x], S, L⟩ = some (.ok .nx, ⟨.val (.int (Nat.gcd a 0)) :: env, S, L⟩) := by
  cases ds with
  | nil => exact ⟨_, by rw [Nat.gcd_zero_right]; rfl⟩
  | cons d ds =>
    refine ⟨[.val (.int (0 : Nat)), .val d], ?_⟩
    rw [← z_end (m := forL _ _ _ _), Nat.gcd_zero_right]
    simp only [gcdBody, ↓Z, Vl, hx, Int.natCast_zero, decide_true, z_kok]
theorem gcd_loop {P : Prg} {k : Nat} {L : List (Option D)} {S : Sto} : ∀ (j : Nat) (a b : Nat) (ds : List D) (x : Bd), (∀ b, setE [x] 0 b = some [b]) → b < 2 ^ j → 2 * j ≤ ds.length →
    ∃ env, forL [2] true (sL (ev P (callN P k) 59) gcdBody) ds ⟨[.val (.int a), .val (.int b), x], S, L⟩ = some (.ok .nx, ⟨.val (.int (Nat.gcd a b)) :: env, S, L⟩)
  | j, a, 0, ds, x, hx, _, _ => gcd_zero hx
  | 0, a, b + 1, ds, x, hx, h, _ => absurd h (by simp)
  | j + 1, a, b + 1, [], x, hx, h, l => absurd l (by simp)
  | j + 1, a, b + 1, [d], x, hx, h, l => absurd l (by simp; omega)
  | j + 1, a, b + 1, d :: d2 :: ds, x, hx, h, l => by
    have r1 : a % (b + 1) < b + 1 := Nat.mod_lt _ (by omega)
    rw [gcd_step hx (by omega), show Nat.gcd a (b + 1) = Nat.gcd (b + 1) (a % (b + 1)) from by rw [Nat.gcd_comm, Nat.gcd_rec, Nat.gcd_comm]]
    by_cases z : a % (b + 1) = 0
    · rw [z]
      exact gcd_zero fun _ => rfl
    · rw [gcd_step (fun _ => rfl) z, Nat.gcd_comm (b + 1), Nat.gcd_rec, Nat.gcd_comm]
      refine gcd_loop j _ _ ds _ (fun _ => rfl) ?_ (by simp only [List.length_cons] at l; omega)
      have q := Nat.div_add_mod (b + 1) (a % (b + 1))
      have q2 : (b + 1) % (a % (b + 1)) < a % (b + 1) := Nat.mod_lt _ (by omega)
      have q3 : 1 ≤ (b + 1) / (a % (b + 1)) := (Nat.one_le_div_iff (by omega)).mpr (by omega)
      have q4 := Nat.mul_le_mul_left (a % (b + 1)) q3
      rw [Nat.pow_succ] at h
      omega
theorem abs_nat {i : Int} : (if i < 0 then -i else i) = (i.natAbs : Int) := by split <;> omega
theorem range_len {lo : Int} {n : Nat} : (rangeD lo n).length = n := by unfold rangeD; rw [List.length_map, List.length_range]
theorem gcd_ok {P : Prg} {k : Nat} {a b : Int} {L : List (Option D)} {S : Sto} (H : HasQ P) (h : Sm 1048576 b) : callN P (k + 1) "_law_gcd" [.int a, .int b] L S = some (.ok (.val (.int (Nat.gcd a.natAbs b.natAbs))), S) := by
  have hb := h.bits
  have e : intBits ((b.natAbs : Nat) : Int) = intBits b := by
    unfold intBits Builtin.Int.intBits
    simp
  have m2 : binop .Mult (.int 2) (.int (intBits b)) = some (.val (.int (2 * (intBits b : Int)))) := b_mulS (Sm.mono (j := 2) (by unfold Sm; decide) (by decide)) (Sm.mono (j := 21) (by unfold Sm; omega) (by decide))
  have s6 : small62 (4 + 2 * (intBits b : Int)) = true := by
    unfold small62
    exact Nat.ble_eq_true_of_le (by omega)
  have tn : (4 + 2 * (intBits b : Int)).toNat = 4 + 2 * intBits b := by omega
  refine call_rt H.gcd rfl ?_
  obtain ⟨env, r⟩ := gcd_loop (P := P) (k := k) (L := L) (S := S) (intBits b) a.natAbs b.natAbs (rangeD 0 (4 + 2 * intBits b)) .un (fun _ => rfl) (Sm.of_bits (Nat.le_refl _)) (by rw [range_len]; omega)
  simp only [Lb.df__law_gcd, H.af, ↓Z, Vl, abs_nat, e, m2, s6, tn, ↓reduceIte, Nat.reduceAdd, Nat.reduceSub, ↓z_run r, z_kok]
/-- a ratio told as a pair -/
def qD (x : Rat) : D := .tup [.int x.num, .int (x.den : Int)]
def gq (t b : Int) : Int := if b < 0 then -(Nat.gcd t.natAbs b.natAbs : Int) else (Nat.gcd t.natAbs b.natAbs : Int)
theorem fdiv_ex {g c : Int} (h : g ≠ 0) : (g * c).fdiv g = c := Int.mul_fdiv_cancel_left c h
theorem q_num {t b : Int} (h : b ≠ 0) : t.fdiv (gq t b) = (Rat.divInt t b).num := by
  rw [Rat.num_divInt]
  unfold gq
  have g0 : ((Nat.gcd t.natAbs b.natAbs : Nat) : Int) ≠ 0 := by
    have := Nat.gcd_pos_of_pos_right t.natAbs (n := b.natAbs) (by omega)
    omega
  rw [show (b.gcd t : Nat) = Nat.gcd t.natAbs b.natAbs from by rw [Int.gcd_comm]; rfl]
  obtain ⟨c, hc⟩ : ((Nat.gcd t.natAbs b.natAbs : Nat) : Int) ∣ t := Int.ofNat_dvd_left.mpr (Nat.gcd_dvd_left _ _)
  generalize ((Nat.gcd t.natAbs b.natAbs : Nat) : Int) = g at *
  subst hc
  split
  · rename_i z
    rw [Int.sign_eq_neg_one_of_neg z, show g * c = -g * -c from by rw [Int.neg_mul_neg], fdiv_ex (by omega), show -1 * (-g * -c) = g * -c from by rw [Int.neg_mul_neg, Int.mul_neg]; omega, Int.mul_ediv_cancel_left _ g0]
  · rw [Int.sign_eq_one_of_pos (by omega), fdiv_ex g0, Int.one_mul, Int.mul_ediv_cancel_left _ g0]
theorem q_den {t b : Int} (h : b ≠ 0) : b.fdiv (gq t b) = ((Rat.divInt t b).den : Int) := by
  rw [Rat.den_divInt, if_neg h]
  unfold gq
  have g0 : ((Nat.gcd t.natAbs b.natAbs : Nat) : Int) ≠ 0 := by
    have := Nat.gcd_pos_of_pos_right t.natAbs (n := b.natAbs) (by omega)
    omega
  rw [show (b.gcd t : Nat) = Nat.gcd t.natAbs b.natAbs from by rw [Int.gcd_comm]; rfl, Int.natCast_ediv]
  obtain ⟨c, hc⟩ : ((Nat.gcd t.natAbs b.natAbs : Nat) : Int) ∣ b := Int.ofNat_dvd_left.mpr (Nat.gcd_dvd_right _ _)
  generalize ((Nat.gcd t.natAbs b.natAbs : Nat) : Int) = g at *
  subst hc
  split
  · rename_i z
    rw [show ((g * c).natAbs : Int) = g * -c from by rw [Int.mul_neg]; omega, Int.mul_ediv_cancel_left _ g0, show g * c = -g * -c from by rw [Int.neg_mul_neg], fdiv_ex (by omega)]
  · rw [show ((g * c).natAbs : Int) = g * c from by omega, Int.mul_ediv_cancel_left _ g0, fdiv_ex g0]
theorem q_eq {t b : Int} (h : b ≠ 0) : D.tup [.int (t.fdiv (gq t b)), .int (b.fdiv (gq t b))] = qD (Rat.divInt t b) := by
  unfold qD
  rw [q_num h, q_den h]
theorem gq_ne {t b : Int} (h : b ≠ 0) : gq t b ≠ 0 := by
  have := Nat.gcd_pos_of_pos_right t.natAbs (n := b.natAbs) (by omega)
  unfold gq
  split <;> omega
theorem gq_sm {t b : Int} {k : Nat} (h : b ≠ 0) (s : Sm k b) : Sm k (gq t b) := by
  have := Nat.gcd_le_right t.natAbs (n := b.natAbs) (by omega)
  refine s.le ?_
  unfold gq
  split <;> omega
theorem law_q {P : Prg} {k : Nat} {t b : Int} {L : List (Option D)} {S : Sto} (H : HasQ P) (h : b ≠ 0) (s : Sm 8000 b) : callN P (k + 2) "_law_q" [.int t, .int b] L S = some (.ok (.val (qD (Rat.divInt t b))), S) := by
  refine call_rt H.q rfl ?_
  have e := gcd_ok (P := P) (k := k) (a := t) (b := b) (L := L) (S := S) H (s.mono (by decide))
  rw [← q_eq h]
  have z := gq_ne (t := t) h
  have z2 := gq_sm (t := t) h s
  have c1 := b_div (a := t) z z2
  have c2 := b_div (a := b) z z2
  by_cases g : b < 0
  · rw [show gq t b = -((Nat.gcd t.natAbs b.natAbs : Nat) : Int) from if_pos g] at *
    simp only [Lb.df__law_q, H.af, ↓Z, Vl, Nat.reduceAdd, Nat.reduceSub, ↓z_callS e, g, decide_true, c1, c2, ↓ZL, z_kok]
  · rw [show gq t b = ((Nat.gcd t.natAbs b.natAbs : Nat) : Int) from if_neg g] at *
    simp only [Lb.df__law_q, H.af, ↓Z, Vl, Nat.reduceAdd, Nat.reduceSub, ↓z_callS e, g, decide_false, c1, c2, ↓ZL, z_kok]
structure HasR (P : Prg) : Prop where
  af : P.af = 60
  whole : P.defs.lookup ("is_whole" : Str) = some Lb.df_is_whole
  pair : P.defs.lookup ("is_pair" : Str) = some Lb.df_is_pair
  lowest : P.defs.lookup ("lowest" : Str) = some Lb.df_lowest
theorem lowest_ok {P : Prg} {k : Nat} {t b : Int} {L : List (Option D)} {S : Sto} (H : HasR P) (h : b ≠ 0) (s : Sm 8000 b) : callN P (k + 1) "lowest" [.int t, .int b] L S = some (.ok (.val (qD (Rat.divInt t b))), S) := by
  refine call_rt H.lowest rfl ?_
  rw [← q_eq h]
  have z := gq_ne (t := t) h
  have z2 := gq_sm (t := t) h s
  have c1 := b_div (a := t) z z2
  have c2 := b_div (a := b) z z2
  by_cases g : b < 0
  · have g2 : ¬ 0 < b := by omega
    rw [show gq t b = -((Nat.gcd t.natAbs b.natAbs : Nat) : Int) from if_pos g] at *
    simp only [Lb.df_lowest, H.af, ↓Z, Vl, Nat.reduceAdd, Nat.reduceSub, g2, decide_false, c1, c2, ↓ZL, z_kok]
  · have g2 : 0 < b := by omega
    rw [show gq t b = ((Nat.gcd t.natAbs b.natAbs : Nat) : Int) from if_neg g] at *
    simp only [Lb.df_lowest, H.af, ↓Z, Vl, Nat.reduceAdd, Nat.reduceSub, g2, decide_true, c1, c2, ↓ZL, z_kok]
theorem whole_int {P : Prg} {k : Nat} {i : Int} {L : List (Option D)} {S : Sto} (H : HasR P) : callN P (k + 1) "is_whole" [.int i] L S = some (.ok (.val (.bl true)), S) := by
  refine call_rt H.whole rfl ?_
  simp only [Lb.df_is_whole, H.af, ↓Z, Vl, Nat.reduceAdd, Nat.reduceSub, z_kok, Bool.not_false]
theorem whole_tup {P : Prg} {k : Nat} {l : List D} {L : List (Option D)} {S : Sto} (H : HasR P) : callN P (k + 1) "is_whole" [.tup l] L S = some (.ok (.val (.bl false)), S) := by
  refine call_rt H.whole rfl ?_
  simp only [Lb.df_is_whole, H.af, ↓Z, Vl, Nat.reduceAdd, Nat.reduceSub, z_kok]
theorem whole_lst {P : Prg} {k : Nat} {l : List D} {L : List (Option D)} {S : Sto} (H : HasR P) : callN P (k + 1) "is_whole" [.lst l] L S = some (.ok (.val (.bl false)), S) := by
  refine call_rt H.whole rfl ?_
  simp only [Lb.df_is_whole, H.af, ↓Z, Vl, Nat.reduceAdd, Nat.reduceSub, z_kok]
theorem pair_tup {P : Prg} {k : Nat} {a b : Int} {L : List (Option D)} {S : Sto} (H : HasR P) (h : 0 < b) : callN P (k + 2) "is_pair" [.tup [.int a, .int b]] L S = some (.ok (.val (.bl true)), S) := by
  refine call_rt H.pair rfl ?_
  simp only [Lb.df_is_pair, H.af, ↓Z, Vl, Nat.reduceAdd, Nat.reduceSub, ↓z_callSD (whole_int H), h, Int.cast_ofNat_Int, Int.natCast_add, Int.reduceAdd, decide_true, Bool.not_true, Int.natCast_zero, z_kok]
theorem pair_lst {P : Prg} {k : Nat} {a b : Int} {L : List (Option D)} {S : Sto} (H : HasR P) (h : 0 < b) : callN P (k + 2) "is_pair" [.lst [.int a, .int b]] L S = some (.ok (.val (.bl true)), S) := by
  refine call_rt H.pair rfl ?_
  simp only [Lb.df_is_pair, H.af, ↓Z, Vl, Nat.reduceAdd, Nat.reduceSub, ↓z_callSD (whole_int H), h, Int.cast_ofNat_Int, Int.natCast_add, Int.reduceAdd, decide_true, Bool.not_true, Int.natCast_zero, z_kok]
/-! ### sizes of ratios -/
def Rb (k : Nat) (x : Rat) : Prop := Sm k x.num ∧ Sm k (x.den : Int)
theorem Rb.mono {j k : Nat} {x : Rat} (h : Rb j x) (l : j ≤ k) : Rb k x := ⟨h.1.mono l, h.2.mono l⟩
theorem den_ne {x : Rat} : (x.den : Int) ≠ 0 := by
  have := x.den_nz
  omega
theorem den_pos {x : Rat} : 0 < (x.den : Int) := by
  have := x.den_nz
  omega
theorem Rb.of {k : Nat} {t b : Int} (h : b ≠ 0) (s : Sm k t) (s2 : Sm k b) : Rb k (Rat.divInt t b) := by
  have gp := Nat.gcd_pos_of_pos_right t.natAbs (n := b.natAbs) (by omega)
  constructor
  · refine s.le ?_
    rw [Rat.num_divInt, show (b.gcd t : Nat) = Nat.gcd t.natAbs b.natAbs from by rw [Int.gcd_comm]; rfl]
    have e : (b.sign * t).natAbs = t.natAbs := by
      rw [Int.natAbs_mul, Int.natAbs_sign_of_ne_zero h, Nat.one_mul]
    obtain ⟨c, hc⟩ : ((Nat.gcd t.natAbs b.natAbs : Nat) : Int) ∣ b.sign * t := Int.ofNat_dvd_left.mpr (by rw [e]; exact Nat.gcd_dvd_left _ _)
    have z : (b.sign * t / ((Nat.gcd t.natAbs b.natAbs : Nat) : Int)).natAbs ≤ (b.sign * t).natAbs := by
      rw [hc, Int.mul_ediv_cancel_left _ (by omega), Int.natAbs_mul, Int.natAbs_natCast]
      exact Nat.le_mul_of_pos_left _ gp
    rw [e] at z
    exact z
  · refine s2.le ?_
    rw [Rat.den_divInt, if_neg h]
    exact Nat.div_le_self _ _
theorem add_eq (x y : Rat) : x + y = Rat.divInt (x.num * y.den + y.num * x.den) (x.den * y.den) := by
  conv => lhs; rw [← Rat.num_divInt_den x, ← Rat.num_divInt_den y]
  exact Rat.divInt_add_divInt _ _ den_ne den_ne
theorem sub_eq (x y : Rat) : x - y = Rat.divInt (x.num * y.den - y.num * x.den) (x.den * y.den) := by
  conv => lhs; rw [← Rat.num_divInt_den x, ← Rat.num_divInt_den y]
  exact Rat.divInt_sub_divInt _ _ den_ne den_ne
theorem mul_eq (x y : Rat) : x * y = Rat.divInt (x.num * y.num) (x.den * y.den) := by
  conv => lhs; rw [← Rat.num_divInt_den x, ← Rat.num_divInt_den y]
  exact Rat.divInt_mul_divInt _ _
theorem div_eq (x y : Rat) : x / y = Rat.divInt (x.num * y.den) (x.den * y.num) := by
  rw [Rat.div_def, Rat.inv_def]
  conv => lhs; rw [← Rat.num_divInt_den x]
  exact Rat.divInt_mul_divInt _ _
theorem dd_ne {x y : Rat} : (x.den : Int) * y.den ≠ 0 := Int.mul_ne_zero den_ne den_ne
theorem Rb.add {j k : Nat} {x y : Rat} (h : Rb j x) (g : Rb k y) : Rb (j + k + 1) (x + y) := by
  rw [add_eq]
  exact .of dd_ne (.add (h.1.mul g.2) ((g.1.mul h.2).mono (by omega))) ((h.2.mul g.2).mono (by omega))
theorem Rb.sub {j k : Nat} {x y : Rat} (h : Rb j x) (g : Rb k y) : Rb (j + k + 1) (x - y) := by
  rw [sub_eq]
  exact .of dd_ne (.sub (h.1.mul g.2) ((g.1.mul h.2).mono (by omega))) ((h.2.mul g.2).mono (by omega))
theorem Rb.mul {j k : Nat} {x y : Rat} (h : Rb j x) (g : Rb k y) : Rb (j + k) (x * y) := by
  rw [mul_eq]
  exact .of dd_ne (h.1.mul g.1) (h.2.mul g.2)
theorem num_ne {y : Rat} (h : y ≠ 0) : y.num ≠ 0 := fun e => h (Rat.num_eq_zero.mp e)
theorem Rb.quo {j k : Nat} {x y : Rat} (h : Rb j x) (g : Rb k y) (hy : y ≠ 0) : Rb (j + k) (x / y) := by
  rw [div_eq]
  exact .of (Int.mul_ne_zero den_ne (num_ne hy)) (h.1.mul g.2) (h.2.mul g.1)
/-! ### ratios reckoned with -/
theorem summed_ok {P : Prg} {k : Nat} {x y : Rat} {L : List (Option D)} {S : Sto} (H : HasR P) (f : P.defs.lookup ("summed" : Str) = some Lb.df_summed) (hx : Rb 3900 x) (hy : Rb 3900 y) : callN P (k + 2) "summed" [qD x, qD y] L S = some (.ok (.val (qD (x + y))), S) := by
  refine call_rt f rfl ?_
  have m1 := b_mulS (hx.1.mono (k := 60000000) (by decide)) (hy.1.mono (k := 60000000) (by decide))
  have m2 := b_mulS (hx.2.mono (k := 60000000) (by decide)) (hy.2.mono (k := 60000000) (by decide))
  have m3 := b_mulS (hx.1.mono (k := 60000000) (by decide)) (hy.2.mono (k := 60000000) (by decide))
  have m4 := b_mulS (hy.1.mono (k := 60000000) (by decide)) (hx.2.mono (k := 60000000) (by decide))
  have m5 := b_mulS (hx.2.mono (k := 60000000) (by decide)) (hy.1.mono (k := 60000000) (by decide))
  rw [add_eq x y]
  simp only [qD, Lb.df_summed, H.af, ↓Z, Vl, Nat.reduceAdd, Nat.reduceSub, m1, m2, m3, m4, m5, ↓z_callS (lowest_ok H dd_ne (((hx.2.mul hy.2)).mono (by decide))), z_kok]
theorem law_plus {P : Prg} {k : Nat} {x y : Rat} {L : List (Option D)} {S : Sto} (H : HasQ P) (f : P.defs.lookup ("_law_plus" : Str) = some Lb.df__law_plus) (hx : Rb 3900 x) (hy : Rb 3900 y) : callN P (k + 3) "_law_plus" [qD x, qD y] L S = some (.ok (.val (qD (x + y))), S) := by
  refine call_rt f rfl ?_
  have m1 := b_mulS (hx.1.mono (k := 60000000) (by decide)) (hy.1.mono (k := 60000000) (by decide))
  have m2 := b_mulS (hx.2.mono (k := 60000000) (by decide)) (hy.2.mono (k := 60000000) (by decide))
  have m3 := b_mulS (hx.1.mono (k := 60000000) (by decide)) (hy.2.mono (k := 60000000) (by decide))
  have m4 := b_mulS (hy.1.mono (k := 60000000) (by decide)) (hx.2.mono (k := 60000000) (by decide))
  have m5 := b_mulS (hx.2.mono (k := 60000000) (by decide)) (hy.1.mono (k := 60000000) (by decide))
  rw [add_eq x y]
  simp only [qD, Lb.df__law_plus, H.af, ↓Z, Vl, Nat.reduceAdd, Nat.reduceSub, m1, m2, m3, m4, m5, ↓z_callS (law_q H dd_ne (((hx.2.mul hy.2)).mono (by decide))), z_kok]
theorem lessened_ok {P : Prg} {k : Nat} {x y : Rat} {L : List (Option D)} {S : Sto} (H : HasR P) (f : P.defs.lookup ("lessened" : Str) = some Lb.df_lessened) (hx : Rb 3900 x) (hy : Rb 3900 y) : callN P (k + 2) "lessened" [qD x, qD y] L S = some (.ok (.val (qD (x - y))), S) := by
  refine call_rt f rfl ?_
  have m1 := b_mulS (hx.1.mono (k := 60000000) (by decide)) (hy.1.mono (k := 60000000) (by decide))
  have m2 := b_mulS (hx.2.mono (k := 60000000) (by decide)) (hy.2.mono (k := 60000000) (by decide))
  have m3 := b_mulS (hx.1.mono (k := 60000000) (by decide)) (hy.2.mono (k := 60000000) (by decide))
  have m4 := b_mulS (hy.1.mono (k := 60000000) (by decide)) (hx.2.mono (k := 60000000) (by decide))
  have m5 := b_mulS (hx.2.mono (k := 60000000) (by decide)) (hy.1.mono (k := 60000000) (by decide))
  rw [sub_eq x y]
  simp only [qD, Lb.df_lessened, H.af, ↓Z, Vl, Nat.reduceAdd, Nat.reduceSub, m1, m2, m3, m4, m5, ↓z_callS (lowest_ok H dd_ne (((hx.2.mul hy.2)).mono (by decide))), z_kok]
theorem law_minus {P : Prg} {k : Nat} {x y : Rat} {L : List (Option D)} {S : Sto} (H : HasQ P) (f : P.defs.lookup ("_law_minus" : Str) = some Lb.df__law_minus) (hx : Rb 3900 x) (hy : Rb 3900 y) : callN P (k + 3) "_law_minus" [qD x, qD y] L S = some (.ok (.val (qD (x - y))), S) := by
  refine call_rt f rfl ?_
  have m1 := b_mulS (hx.1.mono (k := 60000000) (by decide)) (hy.1.mono (k := 60000000) (by decide))
  have m2 := b_mulS (hx.2.mono (k := 60000000) (by decide)) (hy.2.mono (k := 60000000) (by decide))
  have m3 := b_mulS (hx.1.mono (k := 60000000) (by decide)) (hy.2.mono (k := 60000000) (by decide))
  have m4 := b_mulS (hy.1.mono (k := 60000000) (by decide)) (hx.2.mono (k := 60000000) (by decide))
  have m5 := b_mulS (hx.2.mono (k := 60000000) (by decide)) (hy.1.mono (k := 60000000) (by decide))
  rw [sub_eq x y]
  simp only [qD, Lb.df__law_minus, H.af, ↓Z, Vl, Nat.reduceAdd, Nat.reduceSub, m1, m2, m3, m4, m5, ↓z_callS (law_q H dd_ne (((hx.2.mul hy.2)).mono (by decide))), z_kok]
theorem scaled_ok {P : Prg} {k : Nat} {x y : Rat} {L : List (Option D)} {S : Sto} (H : HasR P) (f : P.defs.lookup ("scaled" : Str) = some Lb.df_scaled) (hx : Rb 3900 x) (hy : Rb 3900 y) : callN P (k + 2) "scaled" [qD x, qD y] L S = some (.ok (.val (qD (x * y))), S) := by
  refine call_rt f rfl ?_
  have m1 := b_mulS (hx.1.mono (k := 60000000) (by decide)) (hy.1.mono (k := 60000000) (by decide))
  have m2 := b_mulS (hx.2.mono (k := 60000000) (by decide)) (hy.2.mono (k := 60000000) (by decide))
  have m3 := b_mulS (hx.1.mono (k := 60000000) (by decide)) (hy.2.mono (k := 60000000) (by decide))
  have m4 := b_mulS (hy.1.mono (k := 60000000) (by decide)) (hx.2.mono (k := 60000000) (by decide))
  have m5 := b_mulS (hx.2.mono (k := 60000000) (by decide)) (hy.1.mono (k := 60000000) (by decide))
  rw [mul_eq x y]
  simp only [qD, Lb.df_scaled, H.af, ↓Z, Vl, Nat.reduceAdd, Nat.reduceSub, m1, m2, m3, m4, m5, ↓z_callS (lowest_ok H dd_ne (((hx.2.mul hy.2)).mono (by decide))), z_kok]
theorem law_times {P : Prg} {k : Nat} {x y : Rat} {L : List (Option D)} {S : Sto} (H : HasQ P) (f : P.defs.lookup ("_law_times" : Str) = some Lb.df__law_times) (hx : Rb 3900 x) (hy : Rb 3900 y) : callN P (k + 3) "_law_times" [qD x, qD y] L S = some (.ok (.val (qD (x * y))), S) := by
  refine call_rt f rfl ?_
  have m1 := b_mulS (hx.1.mono (k := 60000000) (by decide)) (hy.1.mono (k := 60000000) (by decide))
  have m2 := b_mulS (hx.2.mono (k := 60000000) (by decide)) (hy.2.mono (k := 60000000) (by decide))
  have m3 := b_mulS (hx.1.mono (k := 60000000) (by decide)) (hy.2.mono (k := 60000000) (by decide))
  have m4 := b_mulS (hy.1.mono (k := 60000000) (by decide)) (hx.2.mono (k := 60000000) (by decide))
  have m5 := b_mulS (hx.2.mono (k := 60000000) (by decide)) (hy.1.mono (k := 60000000) (by decide))
  rw [mul_eq x y]
  simp only [qD, Lb.df__law_times, H.af, ↓Z, Vl, Nat.reduceAdd, Nat.reduceSub, m1, m2, m3, m4, m5, ↓z_callS (law_q H dd_ne (((hx.2.mul hy.2)).mono (by decide))), z_kok]
theorem parted_ok {P : Prg} {k : Nat} {x y : Rat} {L : List (Option D)} {S : Sto} (H : HasR P) (f : P.defs.lookup ("parted" : Str) = some Lb.df_parted) (hx : Rb 3900 x) (hy : Rb 3900 y) (h0 : y ≠ 0) : callN P (k + 2) "parted" [qD x, qD y] L S = some (.ok (.val (qD (x / y))), S) := by
  refine call_rt f rfl ?_
  have m1 := b_mulS (hx.1.mono (k := 60000000) (by decide)) (hy.1.mono (k := 60000000) (by decide))
  have m2 := b_mulS (hx.2.mono (k := 60000000) (by decide)) (hy.2.mono (k := 60000000) (by decide))
  have m3 := b_mulS (hx.1.mono (k := 60000000) (by decide)) (hy.2.mono (k := 60000000) (by decide))
  have m4 := b_mulS (hy.1.mono (k := 60000000) (by decide)) (hx.2.mono (k := 60000000) (by decide))
  have m5 := b_mulS (hx.2.mono (k := 60000000) (by decide)) (hy.1.mono (k := 60000000) (by decide))
  rw [div_eq x y]
  simp only [qD, Lb.df_parted, H.af, ↓Z, Vl, Nat.reduceAdd, Nat.reduceSub, m1, m2, m3, m4, m5, ↓z_callS (lowest_ok H (Int.mul_ne_zero den_ne (num_ne h0)) ((hx.2.mul hy.1).mono (by decide))), z_kok]
theorem law_share {P : Prg} {k : Nat} {x y : Rat} {L : List (Option D)} {S : Sto} (H : HasQ P) (f : P.defs.lookup ("_law_share" : Str) = some Lb.df__law_share) (hx : Rb 3900 x) (hy : Rb 3900 y) (h0 : y ≠ 0) : callN P (k + 3) "_law_share" [qD x, qD y] L S = some (.ok (.val (qD (x / y))), S) := by
  refine call_rt f rfl ?_
  have m1 := b_mulS (hx.1.mono (k := 60000000) (by decide)) (hy.1.mono (k := 60000000) (by decide))
  have m2 := b_mulS (hx.2.mono (k := 60000000) (by decide)) (hy.2.mono (k := 60000000) (by decide))
  have m3 := b_mulS (hx.1.mono (k := 60000000) (by decide)) (hy.2.mono (k := 60000000) (by decide))
  have m4 := b_mulS (hy.1.mono (k := 60000000) (by decide)) (hx.2.mono (k := 60000000) (by decide))
  have m5 := b_mulS (hx.2.mono (k := 60000000) (by decide)) (hy.1.mono (k := 60000000) (by decide))
  rw [div_eq x y]
  simp only [qD, Lb.df__law_share, H.af, ↓Z, Vl, Nat.reduceAdd, Nat.reduceSub, m1, m2, m3, m4, m5, ↓z_callS (law_q H (Int.mul_ne_zero den_ne (num_ne h0)) ((hx.2.mul hy.1).mono (by decide))), z_kok]
theorem below_ok {P : Prg} {k : Nat} {x y : Rat} {L : List (Option D)} {S : Sto} (af : P.af = 60) (f : P.defs.lookup ("below" : Str) = some Lb.df_below) (hx : Rb 3900 x) (hy : Rb 3900 y) : callN P (k + 1) "below" [qD x, qD y] L S = some (.ok (.val (.bl (decide (x < y)))), S) := by
  refine call_rt f rfl ?_
  have m3 := b_mulS (hx.1.mono (k := 60000000) (by decide)) (hy.2.mono (k := 60000000) (by decide))
  have m4 := b_mulS (hy.1.mono (k := 60000000) (by decide)) (hx.2.mono (k := 60000000) (by decide))
  rw [show decide (x < y) = decide (x.num * (y.den : Int) < y.num * (x.den : Int)) from decide_eq_decide.mpr (Rat.lt_iff x y)]
  simp only [qD, Lb.df_below, af, ↓Z, Vl, Nat.reduceAdd, Nat.reduceSub, m3, m4, z_kok]
theorem law_less {P : Prg} {k : Nat} {x y : Rat} {L : List (Option D)} {S : Sto} (af : P.af = 60) (f : P.defs.lookup ("_law_less" : Str) = some Lb.df__law_less) (hx : Rb 3900 x) (hy : Rb 3900 y) : callN P (k + 1) "_law_less" [qD x, qD y] L S = some (.ok (.val (.bl (decide (x < y)))), S) := by
  refine call_rt f rfl ?_
  have m3 := b_mulS (hx.1.mono (k := 60000000) (by decide)) (hy.2.mono (k := 60000000) (by decide))
  have m4 := b_mulS (hy.1.mono (k := 60000000) (by decide)) (hx.2.mono (k := 60000000) (by decide))
  rw [show decide (x < y) = decide (x.num * (y.den : Int) < y.num * (x.den : Int)) from decide_eq_decide.mpr (Rat.lt_iff x y)]
  simp only [qD, Lb.df__law_less, af, ↓Z, Vl, Nat.reduceAdd, Nat.reduceSub, m3, m4, z_kok]
/-- a ratio as it may be handed in -/
inductive Hd (x : Rat) : D → Prop
  | int : x.den = 1 → Hd x (.int x.num)
  | tup (m : Int) : 0 < m → m ≤ 5 → Hd x (.tup [.int (x.num * m), .int ((x.den : Int) * m)])
  | lst (m : Int) : 0 < m → m ≤ 5 → Hd x (.lst [.int (x.num * m), .int ((x.den : Int) * m)])
theorem sm_small {m : Int} (h : 0 < m) (l : m ≤ 5) : Sm 3 m := by unfold Sm; omega
theorem hd_q {x : Rat} {m : Int} (h : 0 < m) : Rat.divInt (x.num * m) ((x.den : Int) * m) = x := by
  rw [Rat.divInt_mul_right (by omega), Rat.num_divInt_den]
theorem hd_pos {x : Rat} {m : Int} (h : 0 < m) : 0 < (x.den : Int) * m := Int.mul_pos den_pos h
theorem told_ok {P : Prg} {k : Nat} {x : Rat} {a : D} {L : List (Option D)} {S : Sto} (H : HasR P) (f : P.defs.lookup ("told" : Str) = some Lb.df_told) (h : Hd x a) (hx : Rb 3900 x) : callN P (k + 3) "told" [a] L S = some (.ok (.val (qD x)), S) := by
  refine call_rt f rfl ?_
  cases h with
  | int e =>
    simp only [qD, e, Lb.df_told, H.af, ↓Z, Vl, ↓ZL, Nat.reduceAdd, Nat.reduceSub, ↓z_callSD (whole_int H), Int.cast_ofNat_Int, z_kok]
  | tup m m0 m5 =>
    have e := lowest_ok (P := P) (k := k + 1) (t := x.num * m) (b := (x.den : Int) * m) (L := L) (S := S) H (by have := hd_pos (x := x) m0; omega) ((hx.2.mul (sm_small m0 m5)).mono (by decide))
    rw [hd_q m0] at e
    simp only [Lb.df_told, H.af, ↓Z, Vl, ↓ZL, Nat.reduceAdd, Nat.reduceSub, ↓z_callSD (whole_tup H), ↓z_callSD (pair_tup H (hd_pos m0)), ↓z_callS e, Bool.not_true, z_kok]
  | lst m m0 m5 =>
    have e := lowest_ok (P := P) (k := k + 1) (t := x.num * m) (b := (x.den : Int) * m) (L := L) (S := S) H (by have := hd_pos (x := x) m0; omega) ((hx.2.mul (sm_small m0 m5)).mono (by decide))
    rw [hd_q m0] at e
    simp only [Lb.df_told, H.af, ↓Z, Vl, ↓ZL, Nat.reduceAdd, Nat.reduceSub, ↓z_callSD (whole_lst H), ↓z_callSD (pair_lst H (hd_pos m0)), ↓z_callS e, Bool.not_true, z_kok]
/-- whether a value is a list -/
def isLst : D → Bool
  | .lst _ => true
  | _ => false
theorem ratio_ok {P : Prg} {k : Nat} {x : Rat} {a : D} {L : List (Option D)} {S : Sto} (H : HasR P) (f : P.defs.lookup ("is_ratio" : Str) = some Lb.df_is_ratio) (h : Hd x a) : callN P (k + 3) "is_ratio" [a] L S = some (.ok (.val (.bl (!isLst a))), S) := by
  refine call_rt f rfl ?_
  cases h with
  | int e => simp only [Lb.df_is_ratio, H.af, ↓Z, Vl, ↓ZL, Nat.reduceAdd, Nat.reduceSub, ↓z_callSD (whole_int H), isLst, Bool.not_false, z_kok]
  | tup m m0 m5 => simp only [Lb.df_is_ratio, H.af, ↓Z, Vl, ↓ZL, Nat.reduceAdd, Nat.reduceSub, ↓z_callSD (whole_tup H), ↓z_callS (pair_tup H (hd_pos m0)), isLst, Bool.not_false, z_kok]
  | lst m m0 m5 => simp only [Lb.df_is_ratio, H.af, ↓Z, Vl, ↓ZL, Nat.reduceAdd, Nat.reduceSub, ↓z_callSD (whole_lst H), isLst, Bool.not_true, z_kok]
theorem handed_ok {P : Prg} {k : Nat} {x : Rat} {p : Pen} (L : List (Option D)) (S : Sto) (H : HasPen P) (f : P.defs.lookup ("_law_handed" : Str) = some Lb.df__law_handed) (hx : Rb 3900 x) (h : p.Ok) (hc : p.ct < 2 ^ 39) :
    ∃ (a : D) (q : Pen), callN P (k + 3) "_law_handed" [.cel 0, qD x] L (p.c :: S) = some (.ok (.val a), q.c :: S) ∧ q.Ok ∧ q.ct ≤ p.ct + 3 ∧ Hd x a := by
  have main : ∀ p0 : Pen, p0.Ok → p0.ct ≤ p.ct + 1 → ∃ (m : Int) (a : D) (q r : Pen), callN P (k + 2) "_law_pick" [.cel 0, .lst [.int 1, .int 1, .int 2, .int 5]] L (p0.c :: S) = some (.ok (.val (.int m)), q.c :: S) ∧ Sm 3 m ∧
      callN P (k + 2) "_law_pick" [.cel 0, .lst [.tup [.int (x.num * m), .int ((x.den : Int) * m)], .lst [.int (x.num * m), .int ((x.den : Int) * m)]]] L (q.c :: S) = some (.ok (.val a), r.c :: S) ∧ r.Ok ∧ r.ct ≤ p.ct + 3 ∧ Hd x a := by
    intro p0 h0 hc0
    obtain ⟨y, q, e, q1, q2, hy⟩ := pick_lst (P := P) (k := k) (p := p0) (xs := [.int 1, .int 1, .int 2, .int 5]) L S H h0 (by omega) (by simp) (by decide)
    have hm : ∃ m : Int, y = .int m ∧ 0 < m ∧ m ≤ 5 := by
      simp only [List.mem_cons, List.not_mem_nil, or_false] at hy
      rcases hy with rfl | rfl | rfl | rfl
      · exact ⟨1, rfl, by decide, by decide⟩
      · exact ⟨1, rfl, by decide, by decide⟩
      · exact ⟨2, rfl, by decide, by decide⟩
      · exact ⟨5, rfl, by decide, by decide⟩
    obtain ⟨m, rfl, m0, m5⟩ := hm
    obtain ⟨a, r, e2, r1, r2, ha⟩ := pick_lst (P := P) (k := k) (p := q) (xs := [.tup [.int (x.num * m), .int ((x.den : Int) * m)], .lst [.int (x.num * m), .int ((x.den : Int) * m)]]) L S H q1 (by omega) (by simp) (by show 2 ≤ _; decide)
    refine ⟨m, a, q, r, e, sm_small m0 m5, e2, r1, by omega, ?_⟩
    simp only [List.mem_cons, List.not_mem_nil, or_false] at ha
    rcases ha with rfl | rfl
    · exact .tup m m0 m5
    · exact .lst m m0 m5
  have mm : ∀ m : Int, Sm 3 m → binop .Mult (.int x.num) (.int m) = some (.val (.int (x.num * m))) ∧ binop .Mult (.int (x.den : Int)) (.int m) = some (.val (.int ((x.den : Int) * m))) := fun m sm => ⟨b_mulS (hx.1.mono (by decide)) (sm.mono (by decide)), b_mulS (hx.2.mono (by decide)) (sm.mono (by decide))⟩
  by_cases e1 : (x.den : Int) = 1
  · obtain ⟨d, p0, e, p1, p2, d0, d2⟩ := draw_ok (P := P) (k := k + 1) (m := 2) L S H h (by omega) (by decide) (Sm.mono (j := 2) (by unfold Sm; decide) (by decide))
    by_cases ed : d = 0
    · subst ed
      refine ⟨.int x.num, p0, call_rt f rfl ?_, p1, by omega, .int (by omega)⟩
      simp only [qD, e1, Lb.df__law_handed, H.af, ↓Z, Vl, ↓ZL, Nat.reduceAdd, Nat.reduceSub, ↓z_callSD e, decide_true, z_kok]
    · obtain ⟨m, a, q, r, e3, sm, e4, r1, r2, ha⟩ := main p0 p1 (by omega)
      refine ⟨a, r, call_rt f rfl ?_, r1, r2, ha⟩
      have m1 := (mm m sm).1
      have m2 := (mm m sm).2
      rw [e1] at m2 e4
      simp only [qD, e1, Lb.df__law_handed, H.af, ↓Z, Vl, ↓ZL, Nat.reduceAdd, Nat.reduceSub, ↓z_callSD e, ↓z_callSD e3, ↓z_callS e3, ↓z_callS e4, ed, m1, m2, decide_true, decide_false, z_kok]
  · obtain ⟨m, a, q, r, e3, sm, e4, r1, r2, ha⟩ := main p h (by omega)
    refine ⟨a, r, call_rt f rfl ?_, r1, r2, ha⟩
    simp only [qD, e1, Lb.df__law_handed, H.af, ↓Z, Vl, ↓ZL, Nat.reduceAdd, Nat.reduceSub, ↓z_callSD e3, ↓z_callS e3, ↓z_callS e4, (mm m sm).1, (mm m sm).2, decide_true, decide_false, z_kok]
theorem plus_ok {P : Prg} {k : Nat} {x y : Rat} {a b : D} {L : List (Option D)} {S : Sto} (H : HasR P) (ft : P.defs.lookup ("told" : Str) = some Lb.df_told) (fs : P.defs.lookup ("summed" : Str) = some Lb.df_summed) (f : P.defs.lookup ("plus" : Str) = some Lb.df_plus) (ha : Hd x a) (hb : Hd y b) (hx : Rb 3900 x) (hy : Rb 3900 y) : callN P (k + 4) "plus" [a, b] L S = some (.ok (.val (qD (x + y))), S) := by
  refine call_rt f rfl ?_
  have e := summed_ok (k := k + 1) (L := L) (S := S) H fs hx hy
  simp only [Lb.df_plus, H.af, ↓Z, Vl, Nat.reduceAdd, Nat.reduceSub, ↓reduceIte, ↓z_callSD (told_ok H ft ha hx), ↓z_callSD (told_ok H ft hb hy), ↓z_callS e, z_kok]
theorem minus_ok {P : Prg} {k : Nat} {x y : Rat} {a b : D} {L : List (Option D)} {S : Sto} (H : HasR P) (ft : P.defs.lookup ("told" : Str) = some Lb.df_told) (fs : P.defs.lookup ("lessened" : Str) = some Lb.df_lessened) (f : P.defs.lookup ("minus" : Str) = some Lb.df_minus) (ha : Hd x a) (hb : Hd y b) (hx : Rb 3900 x) (hy : Rb 3900 y) : callN P (k + 4) "minus" [a, b] L S = some (.ok (.val (qD (x - y))), S) := by
  refine call_rt f rfl ?_
  have e := lessened_ok (k := k + 1) (L := L) (S := S) H fs hx hy
  simp only [Lb.df_minus, H.af, ↓Z, Vl, Nat.reduceAdd, Nat.reduceSub, ↓reduceIte, ↓z_callSD (told_ok H ft ha hx), ↓z_callSD (told_ok H ft hb hy), ↓z_callS e, z_kok]
theorem times_ok {P : Prg} {k : Nat} {x y : Rat} {a b : D} {L : List (Option D)} {S : Sto} (H : HasR P) (ft : P.defs.lookup ("told" : Str) = some Lb.df_told) (fs : P.defs.lookup ("scaled" : Str) = some Lb.df_scaled) (f : P.defs.lookup ("times" : Str) = some Lb.df_times) (ha : Hd x a) (hb : Hd y b) (hx : Rb 3900 x) (hy : Rb 3900 y) : callN P (k + 4) "times" [a, b] L S = some (.ok (.val (qD (x * y))), S) := by
  refine call_rt f rfl ?_
  have e := scaled_ok (k := k + 1) (L := L) (S := S) H fs hx hy
  simp only [Lb.df_times, H.af, ↓Z, Vl, Nat.reduceAdd, Nat.reduceSub, ↓reduceIte, ↓z_callSD (told_ok H ft ha hx), ↓z_callSD (told_ok H ft hb hy), ↓z_callS e, z_kok]
theorem share_ok {P : Prg} {k : Nat} {x y : Rat} {a b : D} {L : List (Option D)} {S : Sto} (H : HasR P) (ft : P.defs.lookup ("told" : Str) = some Lb.df_told) (fs : P.defs.lookup ("parted" : Str) = some Lb.df_parted) (f : P.defs.lookup ("share" : Str) = some Lb.df_share) (ha : Hd x a) (hb : Hd y b) (hx : Rb 3900 x) (hy : Rb 3900 y) (h0 : y ≠ 0) : callN P (k + 4) "share" [a, b] L S = some (.ok (.val (qD (x / y))), S) := by
  refine call_rt f rfl ?_
  have e := parted_ok (k := k + 1) (L := L) (S := S) H fs hx hy h0
  have h1 := num_ne h0
  have e1 := told_ok (k := k) (L := L) (S := S) H ft ha hx
  have e2 := told_ok (k := k) (L := L) (S := S) H ft hb hy
  simp only [qD] at e e1 e2
  simp only [qD, Lb.df_share, H.af, ↓Z, Vl, Nat.reduceAdd, Nat.reduceSub, ↓reduceIte, ↓z_callSD e1, ↓z_callSD e2, ↓z_callS e, h1, decide_false, z_kok]
theorem less_ok {P : Prg} {k : Nat} {x y : Rat} {a b : D} {L : List (Option D)} {S : Sto} (H : HasR P) (ft : P.defs.lookup ("told" : Str) = some Lb.df_told) (fs : P.defs.lookup ("below" : Str) = some Lb.df_below) (f : P.defs.lookup ("less" : Str) = some Lb.df_less) (ha : Hd x a) (hb : Hd y b) (hx : Rb 3900 x) (hy : Rb 3900 y) : callN P (k + 4) "less" [a, b] L S = some (.ok (.val (.bl (decide (x < y)))), S) := by
  refine call_rt f rfl ?_
  have e := below_ok (k := k + 2) (L := L) (S := S) H.af fs hx hy
  simp only [Lb.df_less, H.af, ↓Z, Vl, Nat.reduceAdd, Nat.reduceSub, ↓reduceIte, ↓z_callSD (told_ok H ft ha hx), ↓z_callSD (told_ok H ft hb hy), ↓z_callS e, z_kok]
theorem number_ok {P : Prg} {k : Nat} {most : Int} {p : Pen} (L : List (Option D)) (S : Sto) (H : HasPen P) (HQ : HasQ P) (f : P.defs.lookup ("_law_number" : Str) = some Lb.df__law_number) (h : p.Ok) (hc : p.ct < 2 ^ 39) (h0 : 0 < most) (h1 : most < 2 ^ 20) :
    ∃ (x : Rat) (q : Pen), callN P (k + 3) "_law_number" [.cel 0, .int most] L (p.c :: S) = some (.ok (.val (qD x)), q.c :: S) ∧ q.Ok ∧ q.ct ≤ p.ct + 2 ∧ Rb 20 x := by
  have sm : Sm 20 most := by unfold Sm; omega
  obtain ⟨d, p0, e, p1, p2, d0, d2⟩ := draw_ok (P := P) (k := k + 1) (m := 2 * most + 1) L S H h (by omega) (by omega) (Sm.mono (j := 22) (by unfold Sm; omega) (by decide))
  obtain ⟨y, q, e2, q1, q2, hy⟩ := pick_lst (P := P) (k := k) (p := p0) (xs := [.int 1, .int 1, .int 1, .int 2, .int 3]) L S H p1 (by omega) (by simp) (by decide)
  have hm : ∃ m : Int, y = .int m ∧ 0 < m ∧ m ≤ 5 := by
    simp only [List.mem_cons, List.not_mem_nil, or_false] at hy
    rcases hy with rfl | rfl | rfl | rfl | rfl
    · exact ⟨1, rfl, by decide, by decide⟩
    · exact ⟨1, rfl, by decide, by decide⟩
    · exact ⟨1, rfl, by decide, by decide⟩
    · exact ⟨2, rfl, by decide, by decide⟩
    · exact ⟨3, rfl, by decide, by decide⟩
  obtain ⟨m, rfl, m0, m5⟩ := hm
  have ml := b_mulS (a := 2) (b := most) (Sm.mono (j := 2) (by unfold Sm; decide) (by decide)) (sm.mono (by decide))
  have e3 := law_q (k := k) (t := d - most) (b := m) (L := L) (S := q.c :: S) HQ (by omega) ((sm_small m0 m5).mono (by decide))
  refine ⟨Rat.divInt (d - most) m, q, call_rt f rfl ?_, q1, by omega, .of (by omega) (by unfold Sm; omega) ((sm_small m0 m5).mono (by decide))⟩
  simp only [Lb.df__law_number, H.af, ↓Z, Vl, ↓ZL, Nat.reduceAdd, Nat.reduceSub, ml, ↓z_callSD e, ↓z_callSD e2, ↓z_callS e3, z_kok]
end Rf
/-! Rt: repr of data that are small enough -/
namespace Rf
open PySem PySem.Spec L2
mutual
/-- data without dicts, each number below 2^k -/
def Dk (k : Nat) : D → Prop
  | .non => True
  | .bl _ => True
  | .int i => Sm k i
  | .str x => (∀ c ∈ x.cps.toList, c < 16 ^ 8) ∧ x.length ≤ k
  | .tup l => DkL k l
  | .lst l => DkL k l
  | _ => False
def DkL (k : Nat) : List D → Prop
  | [] => True
  | d :: l => Dk k d ∧ DkL k l
end
mutual
/-- how many values stand in it -/
def dn : D → Nat
  | .tup l => dnL l + 1
  | .lst l => dnL l + 1
  | _ => 1
def dnL : List D → Nat
  | [] => 0
  | d :: l => dn d + dnL l
end
mutual
def dd : D → Nat
  | .tup l => ddL l + 1
  | .lst l => ddL l + 1
  | _ => 0
def ddL : List D → Nat
  | [] => 0
  | d :: l => max (dd d) (ddL l)
end
/-- what holds of the library's data -/
structure PdOk (k n m : Nat) (p : PyData) : Prop where
  sh : p.showable = true
  ln : p.shown.length + 2 ≤ (10 * k + 10) * n
  d : p.depth = m
  h : p.hasDict = false
structure PdOkL (k n m : Nat) (p : List PyData) : Prop where
  sh : PyData.showableAll p = true
  ln : ((PyData.shownAll p).map (·.length)).sum + 2 * (PyData.shownAll p).length ≤ (10 * k + 10) * n
  d : PyData.depthAll p = m
  h : PyData.hasDictAll p = false
mutual
theorem pd_ok {k : Nat} (hk : 8 ≤ k) (hk2 : k ≤ 1919) : ∀ d : D, Dk k d → ∃ p, (∀ S, D.pd S d = some p) ∧ PdOk k (dn d) (dd d) p
  | .non, _ => ⟨.none, fun S => by unfold D.pd; rfl, ⟨rfl, by show 4 + 2 ≤ (10 * k + 10) * 1; omega, rfl, rfl⟩⟩
  | .bl b, _ => ⟨.bool b, fun S => by unfold D.pd; rfl, ⟨rfl, by cases b <;> (first | (show 4 + 2 ≤ (10 * k + 10) * 1; omega) | (show 5 + 2 ≤ (10 * k + 10) * 1; omega)), rfl, rfl⟩⟩
  | .int i, h => by
    have h1 : Sm k i := by unfold Dk at h; exact h
    have hb := h1.bits
    have l : i.natAbs.log2 < k := by
      by_cases z : i.natAbs = 0
      · rw [z]; simp; omega
      · exact (Nat.log2_lt z).mpr h1
    refine ⟨.int i, fun S => by unfold D.pd; rfl, ⟨?_, ?_, by unfold PyData.depth dd; rfl, by unfold PyData.hasDict; rfl⟩⟩
    · unfold PyData.showable
      exact decide_eq_true (by omega)
    · have := int_text_length_le (a := i) (k := k) (by omega) l
      unfold PyData.shown dn
      rw [show ((toString i : String) : Str).length = (toString i).length from ofString_length _]
      omega
  | .str x, h => by
    have h1 : (∀ c ∈ x.cps.toList, c < 16 ^ 8) ∧ x.length ≤ k := by unfold Dk at h; exact h
    refine ⟨.str x, fun S => by unfold D.pd; rfl, ⟨by unfold PyData.showable; rfl, ?_, by unfold PyData.depth dd; rfl, by unfold PyData.hasDict; rfl⟩⟩
    unfold PyData.shown dn
    have := StrLaws.reprText_len x h1.1
    omega
  | .tup l, h => by
    obtain ⟨ps, e, q⟩ := pd_okL hk hk2 l (by unfold Dk at h; exact h)
    refine ⟨.tuple ps, fun S => by unfold D.pd; rw [e S]; rfl, ⟨by unfold PyData.showable; exact q.sh, ?_, by unfold PyData.depth dd; rw [q.d], by unfold PyData.hasDict; exact q.h⟩⟩
    unfold PyData.shown dn
    have := q.ln
    have := tupleText_len_le (PyData.shownAll ps)
    rw [Nat.mul_add]
    omega
  | .lst l, h => by
    obtain ⟨ps, e, q⟩ := pd_okL hk hk2 l (by unfold Dk at h; exact h)
    refine ⟨.list ps, fun S => by unfold D.pd; rw [e S]; rfl, ⟨by unfold PyData.showable; exact q.sh, ?_, by unfold PyData.depth dd; rw [q.d], by unfold PyData.hasDict; exact q.h⟩⟩
    unfold PyData.shown dn
    have := q.ln
    have := listText_len_le (PyData.shownAll ps)
    rw [Nat.mul_add]
    omega
  | .scr _, h => by unfold Dk at h; exact h.elim
  | .cel _, h => by unfold Dk at h; exact h.elim
  | .fn _, h => by unfold Dk at h; exact h.elim
  | .lam _, h => by unfold Dk at h; exact h.elim
theorem pd_okL {k : Nat} (hk : 8 ≤ k) (hk2 : k ≤ 1919) : ∀ l : List D, DkL k l → ∃ p, (∀ S, D.pdL S l = some p) ∧ PdOkL k (dnL l) (ddL l) p
  | [], _ => ⟨[], fun S => by unfold D.pdL; rfl, ⟨rfl, Nat.zero_le _, rfl, rfl⟩⟩
  | d :: l, h => by
    have h1 : Dk k d ∧ DkL k l := by unfold DkL at h; exact h
    obtain ⟨p, e, q⟩ := pd_ok hk hk2 d h1.1
    obtain ⟨ps, es, qs⟩ := pd_okL hk hk2 l h1.2
    refine ⟨p :: ps, fun S => by unfold D.pdL; rw [e S, es S], ⟨?_, ?_, by unfold PyData.depthAll ddL; rw [q.d, qs.d], ?_⟩⟩
    · unfold PyData.showableAll; rw [q.sh, qs.sh]; rfl
    · unfold PyData.shownAll dnL
      have a := q.ln
      have b := qs.ln
      rw [Nat.mul_add, List.map_cons, List.sum_cons, List.length_cons]
      omega
    · unfold PyData.hasDictAll; rw [q.h, qs.h]; rfl
end
/-- the text of data -/
def rT (d : D) : Str := match D.pd [] d with
  | some p => p.shown
  | none => Str.ofString ""
theorem bi_repr {k : Nat} {d : D} {S : Sto} (h : Dk k d) (hk : 8 ≤ k) (hk2 : k ≤ 1919) (hd : dd d ≤ 60) (hn : (10 * k + 10) * dn d ≤ 16777216) : biD S .repr [d] = some (.val (.str (rT d))) := by
  obtain ⟨p, e, q⟩ := pd_ok hk hk2 d h
  have l2 : p.shown.length ≤ line := by
    have := q.ln
    show _ ≤ 16777216
    omega
  show (match D.pd S d with
    | some p => if p.showable = true ∧ p.shown.length ≤ line ∧ p.depth ≤ 60 ∧ (p.hasDict = true → noLst p = true) then some (R.val (.str p.shown)) else none
    | none => none) = _
  unfold rT
  rw [e S, e []]
  simp only
  rw [if_pos ⟨q.sh, l2, by rw [q.d]; exact hd, fun z => by rw [q.h] at z; cases z⟩]
theorem dk_q {k : Nat} {x : Rat} (h : Rb k x) : Dk k (qD x) := by
  unfold qD Dk DkL DkL DkL Dk
  exact ⟨h.1, h.2, trivial⟩
theorem dn_q {x : Rat} : dn (qD x) = 3 := by
  unfold qD dn dnL dnL dnL dn
  rfl
theorem dd_q {x : Rat} : dd (qD x) = 1 := by
  unfold qD dd ddL ddL ddL dd
  rfl
abbrev penBody : List J := [(.set (.nm 1) (.bin .Mod (.bi .int [(.bin .Add (.bin .Mult (.var 1) (.cst (.int 181))) (.var 2))]) (.cst (.int 999999163))))]
theorem pen_loop {P : Prg} {k : Nat} {a : Bd} {L : List (Option D)} {S : Sto} : ∀ (ns : List Int) (fo : Int) (x : Bd), (∀ b, setE [x] 0 b = some [b]) → 0 ≤ fo → fo < 999999163 →
    ∃ fo' e, 0 ≤ fo' ∧ fo' < 999999163 ∧ forL [2] true (sL (ev P (callN P k) 59) penBody) (ns.map .int) ⟨[a, .val (.int fo), x], S, L⟩ = some (.ok .nx, ⟨[a, .val (.int fo'), e], S, L⟩)
  | [], fo, x, _, h0, h1 => ⟨fo, x, h0, h1, rfl⟩
  | n :: ns, fo, x, hx, h0, h1 => by
    have k4 : (999999163 : Int) ≠ 0 := by decide
    have mf : binop .Mult (.int fo) (.int 181) = some (.val (.int (fo * 181))) := b_mulS (Sm.mono (j := 32) (by unfold Sm; omega) (by decide)) (Sm.mono (j := 8) (by unfold Sm; decide) (by decide))
    obtain ⟨fo', e, g0, g1, r⟩ := pen_loop (P := P) (k := k) ns ((fo * 181 + n).fmod 999999163) (.val (.int n)) (fun _ => rfl) (fmod_nn (by decide)) (fmod_lt (by decide))
    refine ⟨fo', e, g0, g1, Eq.trans ?_ r⟩
    rw [← z_end (m := forL _ _ _ ((n :: ns).map _)), ← z_end (m := forL _ _ _ (ns.map _))]
    simp only [penBody, ↓Z, Vl, hx, mf, b_mod k4]
theorem pen_ok {P : Prg} {k : Nat} {ns : List Int} {L : List (Option D)} (af : P.af = 60) (f : P.defs.lookup ("_law_pen" : Str) = some Lb.df__law_pen) (h : ∀ z ∈ ns, Builtin.Int.intBits z ≤ 1048576) :
    ∃ p : Pen, callN P (k + 1) "_law_pen" [.scr (ns.map .int)] L [] = some (.ok (.val (.cel 0)), [p.c]) ∧ p.Ok ∧ p.ct = 0 := by
  obtain ⟨fo, e, g0, g1, r⟩ := pen_loop (P := P) (k := k) (a := .val (.scr (ns.map .int))) (L := L) (S := []) ns 0 .un (fun _ => rfl) (by decide) (by decide)
  refine ⟨⟨ns, 0, 0, 0, fo⟩, call_rt f rfl ?_, ⟨fun z hz => Sm.mono (Sm.of_bits (h z hz)) (by decide), Int.le_refl 0, by unfold Sm; exact Nat.pos_of_ne_zero (by simp), g0, by show fo < _; omega⟩, rfl⟩
  have nd : (["cells", "at", "digits", "count", "fold"] : List Str).Nodup := by decide
  simp only [Lb.df__law_pen, af, ↓Z, Vl, ↓ZL, Nat.reduceAdd, Nat.reduceSub, ↓z_lend1, ↓z_run r, nd, true_and, z_kok]
  rw [if_pos (by decide)]
  rfl
end Rf
/-! Ru: list comprehensions run -/
namespace Rf
open PySem PySem.Spec L2
section
variable {α β γ : Type} {P : Prg} {c : Str → List D → List (Option D) → Sto → Option (Except Exn R × Sto)} {r : Rec} {n : Nat} {s : Sx}
/-- one item of a comprehension -/
def lcS (r : Rec) (elt : I) (t : List Nat) (one : Bool) (ifs : List I) (d : D) : Ev (List D) := (putT t one d).bind fun _ => (ifsT r ifs).bind fun b => if b = true then (r.e elt).bind fun x => Ev.ok [x.d] else Ev.ok []
/-- the comprehension over what it walks -/
def lcB (r : Rec) (elt : I) (t : List Nat) (one : Bool) (ifs : List I) (own : List Nat) (p : List D × List Nat) : Ev R := if p.1.length ≤ line then
    fun s => if noLent own s.env = true ∧ (own.all fun i => !p.2.contains i) = true then
      (match lcL r elt t one ifs own p.1 { s with env := wipeE own (lend p.2 s.env) } with
      | some (.ok xs, s') => some (.ok (.fresh xs), { s' with env := unwipe own s.env (back s.env p.2 s'.env) })
      | _ => none) else none
  else Ev.no
theorem z_E_lc {elt : I} {t : List Nat} {one : Bool} {it : I} {ifs : List I} {own : List Nat} {f : R → Ev β} : Ev.bind ((ev P c (n + 1)).e (.lc elt t one it ifs own)) f s = Ev.bind (eI (ev P c n) it) (fun p => Ev.bind (lcB (ev P c n) elt t one ifs own p) f) s := by
  show Ev.bind (eLc (ev P c n) elt t one it ifs own) f s = _
  rw [← z_bb]
  rfl
theorem z_E_lcD {elt : I} {t : List Nat} {one : Bool} {it : I} {ifs : List I} {own : List Nat} {f : D → Ev β} : Ev.bD ((ev P c (n + 1)).e (.lc elt t one it ifs own)) f s = Ev.bind (eI (ev P c n) it) (fun p => Ev.bD (lcB (ev P c n) elt t one ifs own p) f) s := z_E_lc
theorem z_lcS {elt : I} {t : List Nat} {one : Bool} {d : D} : lcS r elt t one [] d s = Ev.bind (putT t one d) (fun _ => Ev.bD (r.e elt) fun x => Ev.ok [x]) s := by
  unfold lcS ifsT
  rfl
theorem z_lcSi {elt : I} {t : List Nat} {one : Bool} {a : I} {d : D} : lcS r elt t one [a] d s = Ev.bind (putT t one d) (fun _ => Ev.bind (r.t a) fun b => match b with | true => Ev.bD (r.e elt) fun x => Ev.ok [x] | false => Ev.ok []) s := by
  unfold lcS ifsT ifsT
  refine congrArg (fun g => Ev.bind _ g s) (funext fun _ => ?_)
  rw [bb]
  refine congrArg (fun g => Ev.bind _ g) (funext fun b => ?_)
  cases b <;> rfl
theorem z_putT {t : List Nat} {ds : List D} {f : Unit → Ev β} : Ev.bind (putT t false (.tup ds)) f s = if ds.length = t.length then Ev.bind (putT.go t ds) f s else none := by
  have e : putT t false (.tup ds) = if ds.length = t.length then putT.go t ds else Ev.no := by
    unfold putT
    cases t with
    | nil => rfl
    | cons a t => cases t <;> rfl
  rw [e]
  by_cases h : ds.length = t.length
  · rw [if_pos h, if_pos h]
  · rw [if_neg h, if_neg h]
    rfl
theorem z_go_nil {f : Unit → Ev β} : Ev.bind (putT.go [] []) f s = f () s := nr rfl
theorem z_go_cons {i : Nat} {t : List Nat} {d : D} {ds : List D} {f : Unit → Ev β} : Ev.bind (putT.go (i :: t) (d :: ds)) f s = Ev.bind (putV i (.val d)) (fun _ => Ev.bind (putT.go t ds) f) s := by
  show Ev.bind (Ev.bind (putV i (.val d)) fun _ => putT.go t ds) f s = _
  rw [bb]
theorem lcL_cons {elt : I} {t : List Nat} {one : Bool} {ifs : List I} {own : List Nat} {d : D} {ds : List D} : lcL r elt t one ifs own (d :: ds) s = Ev.bind (lcS r elt t one ifs d) (fun x s => Ev.bind (lcL r elt t one ifs own ds) (fun xs => Ev.ok (x ++ xs)) { s with env := wipeE own s.env }) s := by
  show Ev.bind (putT t one d) (fun _ => Ev.bind (ifsT r ifs) fun b => Ev.bind (if b = true then (r.e elt).bind fun x => Ev.ok [x.d] else Ev.ok []) _) s = _
  unfold lcS
  rw [bb]
  refine congrArg (fun g => Ev.bind _ g s) (funext fun _ => ?_)
  rw [bb]
/-- item by item: what is so of the items done, what they gave, and the store -/
theorem lcL_ind {elt : I} {t : List Nat} {one : Bool} {ifs : List I} {own : List Nat} {w0 : List Bd} {L : List (Option D)} (J : List D → List D → Sto → Prop) : ∀ (ds dn xs : List D) (S : Sto), J dn xs S →
    (∀ pre d post xs S, ds = pre ++ d :: post → J (dn ++ pre) xs S → ∃ ys S' e', lcS r elt t one ifs d ⟨w0, S, L⟩ = some (.ok ys, ⟨e', S', L⟩) ∧ wipeE own e' = w0 ∧ J (dn ++ pre ++ [d]) (xs ++ ys) S') → wipeE own w0 = w0 →
    ∃ zs S' e', lcL r elt t one ifs own ds ⟨w0, S, L⟩ = some (.ok zs, ⟨e', S', L⟩) ∧ wipeE own e' = w0 ∧ J (dn ++ ds) (xs ++ zs) S'
  | [], dn, xs, S, h, _, hw => ⟨[], S, w0, rfl, hw, by simpa using h⟩
  | d :: ds, dn, xs, S, h, st, hw => by
    obtain ⟨ys, S1, e1, r1, w1, h1⟩ := st [] d ds xs S rfl (by simpa using h)
    obtain ⟨zs, S2, e2, r2, w2, h2⟩ := lcL_ind J ds (dn ++ [d]) (xs ++ ys) S1 (by simpa using h1) (fun pre d' post xs' S' e hj => by
      have := st (d :: pre) d' post xs' S' (by rw [e]; rfl) (by simpa using hj)
      simpa using this) hw
    refine ⟨ys ++ zs, S2, e2, ?_, w2, by simpa using h2⟩
    rw [lcL_cons, z_run r1]
    show Ev.bind (lcL r elt t one ifs own ds) (fun xs => Ev.ok (ys ++ xs)) ⟨wipeE own e1, S1, L⟩ = _
    rw [w1, z_run r2]
    rfl
/-! ### the frame behind a comprehension is the one ahead -/
theorem wipe_get {own : List Nat} {env : List Bd} : ∀ j : Nat, (wipeE own env)[j]? = if j ∈ own ∧ j < env.length then some .un else env[j]? := by
  induction own with
  | nil => intro j; simp [wipeE]
  | cons i r ih =>
    intro j
    have hl : (wipeE r env).length = env.length := by
      clear ih
      induction r with
      | nil => rfl
      | cons a r ih => simp only [wipeE, List.length_set]; exact ih
    simp only [wipeE, List.getElem?_set, hl, ih, List.mem_cons]
    by_cases e : i = j
    · subst e
      by_cases l : i < env.length <;> simp [l]
    · simp only [e, if_false]
      have e2 : ¬ j = i := fun z => e z.symm
      simp [e2]
theorem wipe_len {own : List Nat} {env : List Bd} : (wipeE own env).length = env.length := by
  induction own with
  | nil => rfl
  | cons a r ih => simp only [wipeE, List.length_set]; exact ih
theorem unw_len {own : List Nat} {old env : List Bd} : (unwipe own old env).length = env.length := by
  induction own with
  | nil => rfl
  | cons a r ih => simp only [unwipe, List.length_set]; exact ih
theorem unwipe_get {own : List Nat} {old env : List Bd} : ∀ j : Nat, (unwipe own old env)[j]? = if j ∈ own ∧ j < env.length then some (old.getD j .un) else env[j]? := by
  induction own with
  | nil => intro j; simp [unwipe]
  | cons i r ih =>
    intro j
    simp only [unwipe, List.getElem?_set, unw_len, ih, List.mem_cons]
    by_cases e : i = j
    · subst e
      by_cases l : i < env.length <;> simp [l]
    · simp only [e, if_false]
      have e2 : ¬ j = i := fun z => e z.symm
      simp [e2]
/-- nothing of ours is lent: the slots hold values -/
theorem back_id : ∀ {is : List Nat} {env : List Bd}, (is.all fun i => isV env i) = true → lend is env = env ∧ ∀ e2, back env is e2 = e2
  | [], env, _ => ⟨rfl, fun _ => rfl⟩
  | i :: r, env, h => by
    simp only [List.all_cons, Bool.and_eq_true] at h
    obtain ⟨d, e⟩ := isV_eq h.1
    have ih := back_id h.2
    constructor
    · unfold lend
      rw [e]
      exact ih.1
    · intro e2
      unfold back
      rw [e]
      exact ih.2 e2
/-- a comprehension over values -/
theorem lcB_ind {elt : I} {t : List Nat} {one : Bool} {ifs : List I} {own is : List Nat} {ds : List D} {env : List Bd} {S : Sto} {L : List (Option D)} (J : List D → List D → Sto → Prop) (hl : ds.length ≤ line) (hn : noLent own env = true) (hd : (own.all fun i => !is.contains i) = true) (hv : (is.all fun i => isV env i) = true)
    (h0 : J [] [] S) (st : ∀ pre d post xs S, ds = pre ++ d :: post → J pre xs S → ∃ ys S' e', lcS r elt t one ifs d ⟨wipeE own env, S, L⟩ = some (.ok ys, ⟨e', S', L⟩) ∧ wipeE own e' = wipeE own env ∧ J (pre ++ [d]) (xs ++ ys) S') :
    ∃ zs S', lcB r elt t one ifs own (ds, is) ⟨env, S, L⟩ = some (.ok (.fresh zs), ⟨env, S', L⟩) ∧ J ds zs S' := by
  obtain ⟨b1, b2⟩ := back_id hv
  have ww : wipeE own (wipeE own env) = wipeE own env := by
    refine List.ext_getElem? fun j => ?_
    simp only [wipe_get, wipe_len]
    split <;> rfl
  obtain ⟨zs, S', e', r1, w1, hj⟩ := lcL_ind (r := r) (elt := elt) (t := t) (one := one) (ifs := ifs) (own := own) (w0 := wipeE own env) (L := L) J ds [] [] S h0 (fun pre d post xs S e hj => by simpa using st pre d post xs S e (by simpa using hj)) ww
  refine ⟨zs, S', ?_, by simpa using hj⟩
  have hlen : e'.length = env.length := by
    have := congrArg List.length w1
    rwa [wipe_len, wipe_len] at this
  have back2 : unwipe own env e' = env := by
    refine List.ext_getElem? fun j => ?_
    rw [unwipe_get]
    split
    · rename_i z
      rw [List.getD_eq_getElem?_getD, List.getElem?_eq_getElem (by omega)]
      rfl
    · rename_i z
      have := congrArg (fun l : List Bd => l[j]?) w1
      simp only [wipe_get] at this
      rwa [if_neg z, if_neg (by rw [← hlen]; exact z)] at this
  unfold lcB
  rw [if_pos hl]
  show (if noLent own env = true ∧ _ then _ else none) = _
  rw [if_pos ⟨hn, hd⟩]
  show (match lcL r elt t one ifs own ds ⟨wipeE own (lend is env), S, L⟩ with
      | some (Except.ok xs, s') => some (Except.ok (R.fresh xs), { s' with env := unwipe own env (back env is s'.env) })
      | _ => none) = _
  rw [b1, r1]
  simp only
  rw [b2, back2]
/-- each item gives one value, the store stays -/
theorem lcB_map {elt : I} {t : List Nat} {one : Bool} {own is : List Nat} {ds : List D} {env : List Bd} {S : Sto} {L : List (Option D)} (g : D → D) (hl : ds.length ≤ line) (hn : noLent own env = true) (hd : (own.all fun i => !is.contains i) = true) (hv : (is.all fun i => isV env i) = true)
    (st : ∀ d ∈ ds, ∃ e', lcS r elt t one [] d ⟨wipeE own env, S, L⟩ = some (.ok [g d], ⟨e', S, L⟩) ∧ wipeE own e' = wipeE own env) :
    lcB r elt t one [] own (ds, is) ⟨env, S, L⟩ = some (.ok (.fresh (ds.map g)), ⟨env, S, L⟩) := by
  obtain ⟨zs, S', h1, h2, h3⟩ := lcB_ind (r := r) (elt := elt) (t := t) (one := one) (ifs := []) (L := L) (fun dn xs S' => xs = dn.map g ∧ S' = S) hl hn hd hv ⟨rfl, rfl⟩ (fun pre d post xs S' e ⟨h1, h2⟩ => by
    subst h2
    obtain ⟨e', r1, w1⟩ := st d (by rw [e]; simp)
    exact ⟨[g d], S', e', r1, w1, by rw [h1]; simp, rfl⟩)
  rw [h1, h2, h3]
/-- an end told: the slots of the comprehension wiped -/
def finC {α : Type} (own : List Nat) : Option (Except Exn α × Sx) → Option (Except Exn α × List Bd × Sto × List (Option D))
  | some (x, s) => some (x, wipeE own s.env, s.S, s.L)
  | none => none
theorem finC_ok {α : Type} {own : List Nat} {x : Except Exn α} {e : List Bd} {S : Sto} {L : List (Option D)} : finC own (some (x, ⟨e, S, L⟩)) = some (x, wipeE own e, S, L) := nr rfl
theorem finC_ex {α : Type} {own : List Nat} {o : Option (Except Exn α × Sx)} {x : Except Exn α} {e : List Bd} {S : Sto} {L : List (Option D)} (h : finC own o = some (x, e, S, L)) : ∃ e', o = some (x, ⟨e', S, L⟩) ∧ wipeE own e' = e := by
  cases o with
  | none => cases h
  | some p =>
    obtain ⟨y, ⟨e1, S1, L1⟩⟩ := p
    cases h
    exact ⟨e1, rfl, rfl⟩
/-- items told by a list of things -/
theorem lcB_enc {α : Type} {elt : I} {t : List Nat} {one : Bool} {own is : List Nat} {xs : List α} {env : List Bd} {S : Sto} {L : List (Option D)} (enc h : α → D) (hl : xs.length ≤ line) (hn : noLent own env = true) (hd : (own.all fun i => !is.contains i) = true) (hv : (is.all fun i => isV env i) = true)
    (st : ∀ x ∈ xs, finC own (lcS r elt t one [] (enc x) ⟨wipeE own env, S, L⟩) = some (.ok [h x], wipeE own env, S, L)) :
    lcB r elt t one [] own (xs.map enc, is) ⟨env, S, L⟩ = some (.ok (.fresh (xs.map h)), ⟨env, S, L⟩) := by
  obtain ⟨zs, S', h1, h2, h3⟩ := lcB_ind (r := r) (elt := elt) (t := t) (one := one) (ifs := []) (L := L) (ds := xs.map enc) (fun dn ys S' => ys = (xs.take dn.length).map h ∧ S' = S) (by rwa [List.length_map]) hn hd hv ⟨by simp, rfl⟩ (fun pre d post ys S' e ⟨h1, h2⟩ => by
    subst h2
    have hp : pre.length < xs.length := by
      have := congrArg List.length e
      simp at this
      omega
    have ed : enc xs[pre.length] = d := by
      have := congrArg (fun l : List D => l[pre.length]?) e
      simp [hp] at this
      exact this
    obtain ⟨e', r1, w1⟩ := finC_ex (st xs[pre.length] (List.getElem_mem hp))
    rw [ed] at r1
    refine ⟨[h xs[pre.length]], S', e', r1, w1, ?_, rfl⟩
    rw [h1, List.length_append, List.length_singleton, List.take_add_one, List.getElem?_eq_getElem hp, List.map_append]
    rfl)
  rw [h1, h2, h3, List.length_map, List.take_length]
end
theorem z_runD {β : Type} {m : Ev R} {f : D → Ev β} {s s2 : Sx} {x : R} (h : m s = some (.ok x, s2)) : Ev.bD m f s = f x.d s2 := z_run h
theorem zip_map {α β : Type} {f : α → D} {g : β → D} {as : List α} {bs : List β} : zipD (as.map f) (bs.map g) = (as.zip bs).map fun p => .tup [f p.1, g p.2] := by
  unfold zipD
  rw [List.zip_map, List.map_map]
  rfl
theorem range_map {n : Nat} : rangeD 0 n = (List.range n).map fun k => .int (k : Nat) := by
  unfold rangeD
  simp
theorem w_nil {env : List Bd} : wipeE [] env = env := nr rfl
theorem w_cons {i : Nat} {r : List Nat} {env : List Bd} : wipeE (i :: r) env = (wipeE r env).set i .un := nr rfl
theorem z_ret {x : List D} {s : Sx} : (Ev.ok x : Ev (List D)) s = some (.ok x, s) := nr rfl
def ZC := And.intro @z_E_lc <| And.intro @z_E_lcD <| And.intro @z_lcS <| And.intro @z_putT <| And.intro @z_go_nil @z_go_cons
def VC := And.intro @finC_ok <| And.intro @w_nil @w_cons
end Rf
/-! Rv: tables of ratios -/
namespace Rf
open PySem PySem.Spec L2
namespace Lb
def df_in_tuples : Df := ⟨["value"], 2, [(.iff (.nt (.isi (.var 0) ["tuple", "list"])) [(.ret (.var 0))] []), (.ret (.bi .tuple [(.lc (.call "in_tuples" [(.var 1)]) [1] true (.var 0) [] [1])]))]⟩
def df_need_between : Df := ⟨["what", "number", "low", "high"], 4, [(.iff (.nt (.call "is_whole" [(.var 1)])) [(.rse "BadNumber" [(.var 0), (.var 1)])] []), (.iff (.or (.and (.cmp .IsNot (.var 2) (.cst .non)) (.cmp .Lt (.var 1) (.var 2))) (.and (.cmp .IsNot (.var 3) (.cst .non)) (.cmp .Gt (.var 1) (.var 3)))) [(.rse "BadNumber" [(.var 0), (.var 1)])] [])]⟩
def df_is_loose_row : Df := ⟨["value"], 2, [(.ret (.and (.isi (.var 0) ["tuple"]) (.bi .all [(.lc (.call "is_ratio" [(.var 1)]) [1] true (.var 0) [] [1])])))]⟩
def df_table_or_none : Df := ⟨["table"], 4, [(.set (.nm 1) (.call "in_tuples" [(.var 0)])), (.iff (.or (.nt (.isi (.var 1) ["tuple"])) (.or (.cmp .Gt (.bi .len [(.var 1)]) (.glb "MOST_SIZE" (.int 12))) (.nt (.bi .all [(.lc (.call "is_loose_row" [(.var 2)]) [2] true (.var 1) [] [2])])))) [(.ret (.cst .non))] []), (.iff (.and (.cmp .Gt (.bi .len [(.var 1)]) (.cst (.int 0))) (.or (.cmp .Gt (.bi .len [(.idx (.var 1) (.cst (.int 0)))]) (.glb "MOST_SIZE" (.int 12))) (.nt (.bi .all [(.lc (.cmp .Eq (.bi .len [(.var 2)]) (.bi .len [(.idx (.var 1) (.cst (.int 0)))])) [2] true (.var 1) [] [2])])))) [(.ret (.cst .non))] []), (.ret (.bi .tuple [(.lc (.bi .tuple [(.lc (.call "told" [(.var 3)]) [3] true (.var 2) [] [3])]) [2] true (.var 1) [] [2])]))]⟩
def df_table_from : Df := ⟨["table"], 2, [(.set (.nm 1) (.call "table_or_none" [(.var 0)])), (.iff (.cmp .Is (.var 1) (.cst .non)) [(.rse "BadTable" [(.var 0)])] []), (.ret (.var 1))]⟩
def df_two_from : Df := ⟨["one", "other"], 3, [(.set (.nm 2) (.call "table_from" [(.var 0)])), (.ret (.tup [(.var 2), (.call "table_from" [(.var 1)])]))]⟩
def df_width_of : Df := ⟨["table"], 1, [(.ret (.ite (.cmp .Gt (.bi .len [(.var 0)]) (.cst (.int 0))) (.bi .len [(.idx (.var 0) (.cst (.int 0)))]) (.cst (.int 0))))]⟩
def df_need_like : Df := ⟨["one", "other"], 2, [(.iff (.or (.cmp .NotEq (.bi .len [(.var 0)]) (.bi .len [(.var 1)])) (.cmp .NotEq (.call "width_of" [(.var 0)]) (.call "width_of" [(.var 1)]))) [(.rse "Unlike" [(.cst (.str "size"))])] [])]⟩
def df_is_square : Df := ⟨["table"], 1, [(.ret (.cmp .Eq (.bi .len [(.var 0)]) (.call "width_of" [(.var 0)])))]⟩
def df_square_from : Df := ⟨["table"], 2, [(.set (.nm 1) (.call "table_from" [(.var 0)])), (.iff (.nt (.call "is_square" [(.var 1)])) [(.rse "Unlike" [(.cst (.str "square"))])] []), (.ret (.var 1))]⟩
def df_ratio_from : Df := ⟨["what", "value"], 3, [(.set (.nm 2) (.call "in_tuples" [(.var 1)])), (.iff (.nt (.call "is_ratio" [(.var 2)])) [(.rse "BadNumber" [(.var 0), (.var 1)])] []), (.ret (.call "told" [(.var 2)]))]⟩
def df_row_plus : Df := ⟨["one", "by", "other"], 5, [(.iff (.cmp .Eq (.idx (.var 1) (.cst (.int 0))) (.cst (.int 0))) [(.ret (.bi .tuple [(.var 0)]))] []), (.ret (.bi .tuple [(.lc (.ite (.cmp .Eq (.idx (.var 4) (.cst (.int 0))) (.cst (.int 0))) (.var 3) (.call "summed" [(.var 3), (.call "scaled" [(.var 1), (.var 4)])])) [3, 4] false (.zip (.var 0) (.var 2)) [] [3, 4])]))]⟩
def df_sum_by : Df := ⟨["one", "other"], 4, [(.ret (.bi .tuple [(.lc (.call "row_plus" [(.var 2), (.glb "ONE" (.tup [(.int 1), (.int 1)])), (.var 3)]) [2, 3] false (.zip (.var 0) (.var 1)) [] [2, 3])]))]⟩
def df_less_by : Df := ⟨["one", "other"], 4, [(.ret (.bi .tuple [(.lc (.call "row_plus" [(.var 2), (.tup [(.neg (.cst (.int 1))), (.cst (.int 1))]), (.var 3)]) [2, 3] false (.zip (.var 0) (.var 1)) [] [2, 3])]))]⟩
def df_table_sum : Df := ⟨["one", "other"], 4, [(.setT [(.nm 2), (.nm 3)] (.call "two_from" [(.var 0), (.var 1)])), (.ex (.call "need_like" [(.var 2), (.var 3)])), (.ret (.call "sum_by" [(.var 2), (.var 3)]))]⟩
def df_table_less : Df := ⟨["one", "other"], 4, [(.setT [(.nm 2), (.nm 3)] (.call "two_from" [(.var 0), (.var 1)])), (.ex (.call "need_like" [(.var 2), (.var 3)])), (.ret (.call "less_by" [(.var 2), (.var 3)]))]⟩
def df_times_by : Df := ⟨["table", "by"], 4, [(.ret (.bi .tuple [(.lc (.bi .tuple [(.lc (.call "scaled" [(.var 3), (.var 1)]) [3] true (.var 2) [] [3])]) [2] true (.var 0) [] [2])]))]⟩
def df_table_times : Df := ⟨["table", "by"], 3, [(.set (.nm 2) (.call "table_from" [(.var 0)])), (.ret (.call "times_by" [(.var 2), (.call "ratio_from" [(.cst (.str "by")), (.var 1)])]))]⟩
def df_mixed_by : Df := ⟨["shares", "rows", "wide"], 6, [(.set (.nm 3) (.bin .Mult (.tup [(.glb "NONE" (.tup [(.int 0), (.int 1)]))]) (.var 2))), (.for_ [4, 5] false (.zip (.var 0) (.var 1)) [(.set (.nm 3) (.call "row_plus" [(.var 3), (.var 4), (.var 5)]))]), (.ret (.var 3))]⟩
def df_product_by : Df := ⟨["one", "other"], 3, [(.ret (.bi .tuple [(.lc (.call "mixed_by" [(.var 2), (.var 1), (.call "width_of" [(.var 1)])]) [2] true (.var 0) [] [2])]))]⟩
def df_table_product : Df := ⟨["one", "other"], 4, [(.setT [(.nm 2), (.nm 3)] (.call "two_from" [(.var 0), (.var 1)])), (.iff (.and (.cmp .Gt (.bi .len [(.var 2)]) (.cst (.int 0))) (.cmp .NotEq (.call "width_of" [(.var 2)]) (.bi .len [(.var 3)]))) [(.rse "Unlike" [(.cst (.str "size"))])] []), (.ret (.call "product_by" [(.var 2), (.var 3)]))]⟩
def df_turned_by : Df := ⟨["table"], 3, [(.ret (.bi .tuple [(.lc (.bi .tuple [(.lc (.idx (.var 2) (.var 1)) [2] true (.var 0) [] [2])]) [1] true (.rng (.call "width_of" [(.var 0)])) [] [1])]))]⟩
def df_turned_over : Df := ⟨["table"], 1, [(.ret (.call "turned_by" [(.call "table_from" [(.var 0)])]))]⟩
def df_unit_row : Df := ⟨["size", "place"], 3, [(.ret (.bi .tuple [(.lc (.ite (.cmp .Eq (.var 2) (.var 1)) (.glb "ONE" (.tup [(.int 1), (.int 1)])) (.glb "NONE" (.tup [(.int 0), (.int 1)]))) [2] true (.rng (.var 0)) [] [2])]))]⟩
def df_unit_by : Df := ⟨["size"], 2, [(.ret (.bi .tuple [(.lc (.call "unit_row" [(.var 0), (.var 1)]) [1] true (.rng (.var 0)) [] [1])]))]⟩
def df_unit_table : Df := ⟨["size"], 1, [(.ex (.call "need_between" [(.cst (.str "size")), (.var 0), (.cst (.int 0)), (.glb "MOST_SIZE" (.int 12))])), (.ret (.call "unit_by" [(.var 0)]))]⟩
def df_power_by : Df := ⟨["table", "many"], 4, [(.set (.nm 2) (.call "unit_by" [(.bi .len [(.var 0)])])), (.for_ [3] true (.rng (.var 1)) [(.set (.nm 2) (.call "product_by" [(.var 2), (.var 0)]))]), (.ret (.var 2))]⟩
def df_table_power : Df := ⟨["table", "many"], 3, [(.set (.nm 2) (.call "square_from" [(.var 0)])), (.ex (.call "need_between" [(.cst (.str "many")), (.var 1), (.cst (.int 0)), (.glb "MOST_SIZE" (.int 12))])), (.ret (.call "power_by" [(.var 2), (.var 1)]))]⟩
def df__law_handed_row : Df := ⟨["pen", "row"], 4, [(.set (.nm 2) (.lc (.call "_law_handed" [(.var 0), (.var 3)]) [3] true (.var 1) [] [3])), (.ret (.call "_law_pick" [(.var 0), (.lst [(.bi .tuple [(.var 2)]), (.var 2)])]))]⟩
def df__law_passed : Df := ⟨["pen", "row"], 2, [(.ret (.call "_law_pick" [(.var 0), (.lst [(.bi .tuple [(.var 1)]), (.bi .list [(.var 1)])])]))]⟩
def df__law_ratio : Df := ⟨["pen", "most"], 2, [(.ret (.call "_law_q" [(.bin .Sub (.call "_law_draw" [(.var 0), (.bin .Add (.bin .Mult (.cst (.int 2)) (.var 1)) (.cst (.int 1)))]) (.var 1)), (.call "_law_pick" [(.var 0), (.lst [(.cst (.int 1)), (.cst (.int 1)), (.cst (.int 1)), (.cst (.int 2)), (.cst (.int 3))])])]))]⟩
def df__law_sum : Df := ⟨["items"], 3, [(.set (.nm 1) (.tup [(.cst (.int 0)), (.cst (.int 1))])), (.for_ [2] true (.var 0) [(.set (.nm 1) (.call "_law_plus" [(.var 1), (.var 2)]))]), (.ret (.var 1))]⟩
def df__law_zeros : Df := ⟨["many"], 1, [(.ret (.bi .tuple [(.bin .Mult (.lst [(.tup [(.cst (.int 0)), (.cst (.int 1))])]) (.var 0))]))]⟩
def df__law_row_table : Df := ⟨["row", "table", "wide"], 6, [(.ret (.bi .tuple [(.lc (.call "_law_sum" [(.lc (.call "_law_times" [(.var 4), (.idx (.var 5) (.var 3))]) [4, 5] false (.zip (.var 0) (.var 1)) [] [4, 5])]) [3] true (.rng (.var 2)) [] [3])]))]⟩
def df__law_add : Df := ⟨["one", "other"], 4, [(.ret (.bi .tuple [(.lc (.call "_law_plus" [(.var 2), (.var 3)]) [2, 3] false (.zip (.var 0) (.var 1)) [] [2, 3])]))]⟩
def df__law_scaled : Df := ⟨["row", "by"], 3, [(.ret (.bi .tuple [(.lc (.call "_law_times" [(.var 2), (.var 1)]) [2] true (.var 0) [] [2])]))]⟩
def df__law_product : Df := ⟨["one", "other", "wide"], 4, [(.ret (.bi .tuple [(.lc (.call "_law_row_table" [(.var 3), (.var 1), (.var 2)]) [3] true (.var 0) [] [3])]))]⟩
def df__law_table_sum : Df := ⟨["one", "other"], 4, [(.ret (.bi .tuple [(.lc (.call "_law_add" [(.var 2), (.var 3)]) [2, 3] false (.zip (.var 0) (.var 1)) [] [2, 3])]))]⟩
def df__law_turned : Df := ⟨["table", "wide"], 4, [(.ret (.bi .tuple [(.lc (.bi .tuple [(.lc (.idx (.var 3) (.var 2)) [3] true (.var 0) [] [3])]) [2] true (.rng (.var 1)) [] [2])]))]⟩
def df__law_unit : Df := ⟨["size"], 3, [(.ret (.bi .tuple [(.lc (.bi .tuple [(.lc (.tup [(.bi .int [(.cmp .Eq (.var 1) (.var 2))]), (.cst (.int 1))]) [2] true (.rng (.var 0)) [] [2])]) [1] true (.rng (.var 0)) [] [1])]))]⟩
def df__law_table_fault : Df := ⟨["action"], 2, [(.try_ [(.ex (.callv0 0)), (.ret (.cst .non))] [("BadNumber", 1, [.inl "number", .inr "what", .inr "number"]), ("BadRow", 1, [.inl "row", .inr "row"]), ("BadTable", 1, [.inl "table", .inr "table"]), ("Unlike", 1, [.inl "unlike", .inr "what"])])]⟩
def df__law_tables_due : Df := ⟨["tries"], 3, [(.ret (.bi .all [(.lc (.cmp .Eq (.bi .repr [(.call "_law_table_fault" [(.var 1)])]) (.bi .repr [(.var 2)])) [1, 2] false (.var 0) [] [1, 2])]))]⟩
def df__law_some_table : Df := ⟨["pen", "tall", "wide"], 10, [(.set (.nm 3) (.lst [])), (.for_ [4] true (.rng (.var 1)) [(.iff (.and (.cmp .NotEq (.var 3) (.lst [])) (.cmp .Eq (.call "_law_draw" [(.var 0), (.cst (.int 5))]) (.cst (.int 0)))) [(.par [5, 6] [(.lc (.call "_law_ratio" [(.var 0), (.cst (.int 2))]) [8] true (.var 3) [] [8]), (.call "_law_zeros" [(.var 2)])]), (.for_ [7, 8] false (.zip (.var 5) (.var 3)) [(.set (.nm 6) (.call "_law_add" [(.var 6), (.call "_law_scaled" [(.var 8), (.var 7)])]))]), (.ex (.app 3 (.var 6)))] [(.ex (.app 3 (.bi .tuple [(.lc (.ite (.cmp .Gt (.call "_law_draw" [(.var 0), (.cst (.int 4))]) (.cst (.int 0))) (.call "_law_ratio" [(.var 0), (.cst (.int 2))]) (.tup [(.cst (.int 0)), (.cst (.int 1))])) [9] true (.rng (.var 2)) [] [9])])))])]), (.ret (.bi .tuple [(.var 3)]))]⟩
def df__law_handed_table : Df := ⟨["pen", "rows"], 3, [(.ret (.call "_law_passed" [(.var 0), (.lc (.call "_law_handed_row" [(.var 0), (.var 2)]) [2] true (.var 1) [] [2])]))]⟩
def df__law_bad_table : Df := ⟨["pen"], 1, [(.ret (.call "_law_pick" [(.var 0), (.lst [(.cst .non), (.cst (.int 5)), (.cst (.str "12")), (.tup [(.cst (.int 1))]), (.tup [(.tup [(.cst (.int 1))]), (.tup [(.cst (.int 1)), (.cst (.int 2))])]), (.tup [(.tup [(.cst (.str "1"))])]), (.tup [(.tup [(.cst (.bl true))])]), (.tup [(.tup [(.tup [(.cst (.int 1)), (.cst (.int 0))])])]), (.tup [(.tup [(.cst (.int 1))]), (.cst .non)]), (.tup [(.tup [(.tup [(.cst (.int 1)), (.cst (.int 2)), (.cst (.int 3))])])]), (.bin .Mult (.tup [(.tup [(.cst (.int 1))])]) (.cst (.int 13))), (.tup [(.bin .Mult (.tup [(.cst (.int 0))]) (.cst (.int 13)))])])]))]⟩
def df__law_wide : Df := ⟨["table"], 1, [(.ret (.ite (.cmp .NotEq (.var 0) (.tup [])) (.bi .len [(.idx (.var 0) (.cst (.int 0)))]) (.cst (.int 0))))]⟩
end Lb
/-! ### rows, tables -/
abbrev rD (n : Nat) (f : Nat → Rat) : D := .tup ((List.range n).map fun j => qD (f j))
abbrev tD (m n : Nat) (f : Nat → Nat → Rat) : D := .tup ((List.range m).map fun i => rD n (f i))
theorem q_i0 {x : Rat} : idxD (qD x) (.int 0) = some (.int x.num) := i_t0
theorem q_i1 {x : Rat} : idxD (qD x) (.int 1) = some (.int (x.den : Int)) := i_t1
theorem zipR {n : Nat} {f g : Nat → D} : zipD ((List.range n).map f) ((List.range n).map g) = (List.range n).map fun j => .tup [f j, g j] := by
  unfold zipD
  rw [List.zip_map', List.map_map]
  rfl
def sumN : Nat → (Nat → Rat) → Rat
  | 0, _ => 0
  | n + 1, f => sumN n f + f n
theorem len_r {n : Nat} {α : Type} {f : Nat → α} : ((List.range n).map f).length = n := by rw [List.length_map, List.length_range]
theorem get_r {n i : Nat} {α : Type} {f : Nat → α} (h : i < n) : ((List.range n).map f)[i]? = some (f i) := by
  rw [List.getElem?_map, List.getElem?_range h]
  rfl
theorem le_line {n : Nat} (h : n ≤ 1000) : n ≤ line := Nat.le_trans h (by show 1000 ≤ 16777216; decide)
theorem range_len_le {n : Nat} (h : n ≤ 1000) : (List.range n).length ≤ line := by rw [List.length_range]; exact le_line h
/-- one lap of a loop -/
def lapE (t : List Nat) (one : Bool) (body : Ev Fl) (d : D) : Ev Fl := Ev.bind (putT t one d) fun _ => body
theorem for_ind {t : List Nat} {one : Bool} {body : Ev Fl} {enc : Nat → D} {n : Nat} (J : Nat → Sx → Prop) (st : ∀ i s, i < n → J i s → ∃ s', lapE t one body (enc i) s = some (.ok .nx, s') ∧ J (i + 1) s') :
    ∀ (m i : Nat) (s : Sx), i + m = n → J i s → ∃ s', forL t one body ((List.range' i m).map enc) s = some (.ok .nx, s') ∧ J n s'
  | 0, i, s, e, h => ⟨s, rfl, by rw [← e]; exact h⟩
  | m + 1, i, s, e, h => by
    obtain ⟨s1, r1, h1⟩ := st i s (by omega) h
    obtain ⟨s2, r2, h2⟩ := for_ind J st m (i + 1) s1 (by omega) h1
    refine ⟨s2, ?_, h2⟩
    rw [List.range'_succ, List.map_cons, ← z_end (m := forL _ _ _ _), z_F_cons]
    have r1 : Ev.bind (putT t one (enc i)) (fun _ => body) s = some (.ok .nx, s1) := r1
    unfold Ev.bind at r1 ⊢
    generalize putT t one (enc i) s = o at r1 ⊢
    cases o with
    | none => cases r1
    | some p =>
      obtain ⟨x, s3⟩ := p
      cases x with
      | error x => cases r1
      | ok x =>
        simp only at r1 ⊢
        rw [r1]
        simp only
        rw [r2]
        rfl
theorem for_rng {t : List Nat} {one : Bool} {body : Ev Fl} {enc : Nat → D} {n : Nat} {s : Sx} (J : Nat → Sx → Prop) (h0 : J 0 s) (st : ∀ i s, i < n → J i s → ∃ s', lapE t one body (enc i) s = some (.ok .nx, s') ∧ J (i + 1) s') :
    ∃ s', forL t one body ((List.range n).map enc) s = some (.ok .nx, s') ∧ J n s' := by
  rw [List.range_eq_range']
  exact for_ind J st n 0 s (by omega) h0
theorem z_lap {t : List Nat} {one : Bool} {body : Ev Fl} {d : D} {s : Sx} : lapE t one body d s = Ev.bind (putT t one d) (fun _ => Ev.bind body Ev.ok) s := by
  rw [show Ev.bind body Ev.ok = body from funext fun _ => z_end]
  rfl
structure HasS (P : Prg) : Prop where
  r : HasR P
  summed : P.defs.lookup ("summed" : Str) = some Lb.df_summed
  scaled : P.defs.lookup ("scaled" : Str) = some Lb.df_scaled
theorem qn0 {x : Rat} : decide (x.num = 0) = decide (x = 0) := decide_eq_decide.mpr Rat.num_eq_zero
theorem row_plus_ok {P : Prg} {k n : Nat} {u v : Nat → Rat} {c : Rat} {L : List (Option D)} {S : Sto} (H : HasS P) (f : P.defs.lookup ("row_plus" : Str) = some Lb.df_row_plus) (hc : Rb 3900 c) (hu : ∀ j < n, Rb 3900 (u j)) (hv : ∀ j < n, Rb 3900 (v j) ∧ Rb 3900 (c * v j)) (hz : n ≤ 1000) :
    callN P (k + 3) "row_plus" [rD n u, qD c, rD n v] L S = some (.ok (.val (rD n fun j => u j + c * v j)), S) := by
  refine call_rt f rfl ?_
  by_cases h0 : c = 0
  · subst h0
    simp only [Lb.df_row_plus, H.r.af, ↓Z, Vl, VC, ↓ZL, ↓ZC, ↓reduceIte, Nat.reduceAdd, Nat.reduceSub, q_i0, q_i1, zipR, z_kok, z_ret, eq_self, decide_true, decide_false, Bool.not_true, Bool.not_false, len_r, List.length_range, List.length_map, show decide ((0 : Rat).num = 0) = true from rfl, Rat.zero_mul, Rat.add_zero]
  · have hn : decide (c.num = 0) = false := by rw [qn0]; exact decide_eq_false h0
    simp only [Lb.df_row_plus, H.r.af, ↓Z, Vl, VC, ↓ZL, ↓ZC, ↓reduceIte, Nat.reduceAdd, Nat.reduceSub, q_i0, q_i1, zipR, z_kok, z_ret, eq_self, decide_true, decide_false, Bool.not_true, Bool.not_false, len_r, List.length_range, List.length_map, hn]
    rw [z_runD (lcB_enc (fun j => .tup [qD (u j), qD (v j)]) (fun j => qD (u j + c * v j)) ?_ ?_ ?_ ?_ ?_)]
    · simp only [↓Z, Vl, VC, ↓ZL, ↓ZC, ↓reduceIte, Nat.reduceAdd, Nat.reduceSub, q_i0, q_i1, zipR, z_kok, z_ret, eq_self, decide_true, decide_false, Bool.not_true, Bool.not_false, len_r, List.length_range, List.length_map]
    · exact range_len_le hz
    · rfl
    · rfl
    · rfl
    · intro j hj
      have hj := List.mem_range.mp hj
      have e1 := scaled_ok (P := P) (k := k) (L := L) (S := S) H.r H.scaled hc (hv j hj).1
      have e2 := summed_ok (P := P) (k := k) (L := L) (S := S) H.r H.summed (hu j hj) (hv j hj).2
      by_cases hb : v j = 0
      · rw [hb, Rat.mul_zero, Rat.add_zero]
        simp only [↓Z, Vl, VC, ↓ZL, ↓ZC, ↓reduceIte, Nat.reduceAdd, Nat.reduceSub, q_i0, q_i1, zipR, z_kok, z_ret, eq_self, decide_true, decide_false, Bool.not_true, Bool.not_false, len_r, List.length_range, List.length_map, show decide ((0 : Rat).num = 0) = true from rfl]
      · have hb2 : decide ((v j).num = 0) = false := by rw [qn0]; exact decide_eq_false hb
        simp only [↓Z, Vl, VC, ↓ZL, ↓ZC, ↓reduceIte, Nat.reduceAdd, Nat.reduceSub, q_i0, q_i1, zipR, z_kok, z_ret, eq_self, decide_true, decide_false, Bool.not_true, Bool.not_false, len_r, List.length_range, List.length_map, hb2, ↓z_callSD e1, ↓z_callSD e2]
/-- a def that ends without a return -/
theorem call_nx {P : Prg} {k : Nat} {f : Str} {df : Df} {ds : List D} {L : List (Option D)} {S S2 : Sto} (hf : P.defs.lookup f = some df) (hl : ds.length = df.ps.length)
    (h : fin (Ev.bind (sL (ev P (callN P k) P.af) df.body) Ev.ok ⟨ds.map .val ++ List.replicate (df.N - ds.length) .un, S, L⟩) = some (.ok .nx, S2)) : callN P (k + 1) f ds L S = some (.ok (.val .non), S2) := by
  rw [z_end] at h
  unfold callN
  rw [hf]
  simp only
  rw [if_pos hl]
  generalize sL (ev P (callN P k) P.af) df.body ⟨ds.map .val ++ List.replicate (df.N - ds.length) .un, S, L⟩ = o at h ⊢
  cases o with
  | none => cases h
  | some p =>
    obtain ⟨y, s⟩ := p
    cases h
    rfl
theorem z_lends {α β : Type} {is : List Nat} {m : Ev α} {f : α → Ev β} {env : List Bd} {S : Sto} {L : List (Option D)} (h : (is.all fun i => isV env i) = true) : Ev.bind (lending is m) f ⟨env, S, L⟩ = Ev.bind m f ⟨env, S, L⟩ := by
  obtain ⟨b1, b2⟩ := back_id h
  unfold Ev.bind lending
  show (match (match m ⟨lend is env, S, L⟩ with | none => none | some (x, s') => some (x, { s' with env := back env is s'.env })) with | none => none | some (Except.error x, s') => some (Except.error x, s') | some (Except.ok a, s') => f a s') = _
  rw [b1]
  cases m ⟨env, S, L⟩ with
  | none => rfl
  | some p =>
    simp only [b2] <;> rfl
theorem idx_rn {m i : Nat} {g : Nat → D} (h : i < m) : idxD (.tup ((List.range m).map g)) (.int (i : Nat)) = some (g i) := idx_t (get_r h)
theorem idx_r0 {m : Nat} {g : Nat → D} (h : 0 < m) : idxD (.tup ((List.range m).map g)) (.int 0) = some (g 0) := idx_rn (i := 0) h
def wd (m n : Nat) : Nat := if m = 0 then 0 else n
theorem wd_self {m : Nat} : wd m m = m := by
  unfold wd
  split <;> omega
theorem wd_le {m n : Nat} : wd m n ≤ n := by
  unfold wd
  split <;> omega
theorem wd_pos {m n : Nat} (h : 0 < m) : wd m n = n := by
  unfold wd
  split <;> omega
theorem width_ok {P : Prg} {k m n : Nat} {u : Nat → Nat → Rat} {L : List (Option D)} {S : Sto} (af : P.af = 60) (f : P.defs.lookup ("width_of" : Str) = some Lb.df_width_of) : callN P (k + 1) "width_of" [tD m n u] L S = some (.ok (.val (.int (wd m n))), S) := by
  refine call_rt f rfl ?_
  cases m with
  | zero => simp only [Lb.df_width_of, af, ↓Z, Vl, VC, ↓ZL, ↓ZC, ↓reduceIte, Nat.reduceAdd, Nat.reduceSub, q_i0, q_i1, zipR, z_kok, z_ret, eq_self, decide_true, decide_false, Bool.not_true, Bool.not_false, len_r, List.length_range, List.length_map, Int.natCast_zero, Int.lt_irrefl, wd]
  | succ m =>
    have h : (0 : Int) < ((m + 1 : Nat) : Int) := by omega
    simp only [Lb.df_width_of, af, ↓Z, Vl, VC, ↓ZL, ↓ZC, ↓reduceIte, Nat.reduceAdd, Nat.reduceSub, q_i0, q_i1, zipR, z_kok, z_ret, eq_self, decide_true, decide_false, Bool.not_true, Bool.not_false, len_r, List.length_range, List.length_map, h, idx_r0 (Nat.succ_pos m), wd_pos (Nat.succ_pos m)]
theorem lwide_ok {P : Prg} {k m n : Nat} {u : Nat → Nat → Rat} {L : List (Option D)} {S : Sto} (af : P.af = 60) (f : P.defs.lookup ("_law_wide" : Str) = some Lb.df__law_wide) (hne : ∀ S, cmpop S .NotEq (tD m n u) (.tup []) = some (decide (0 < m))) : callN P (k + 1) "_law_wide" [tD m n u] L S = some (.ok (.val (.int (wd m n))), S) := by
  refine call_rt f rfl ?_
  cases m with
  | zero =>
    have hne := hne S
    simp only [List.range_zero, m_nil, Nat.lt_irrefl, decide_false] at hne ⊢
    simp only [Lb.df__law_wide, af, ↓Z, Vl, VC, ↓ZL, ↓ZC, ↓reduceIte, Nat.reduceAdd, Nat.reduceSub, q_i0, q_i1, zipR, z_kok, z_ret, eq_self, decide_true, decide_false, Bool.not_true, Bool.not_false, len_r, List.length_range, List.length_map, hne, wd, Int.natCast_zero]
  | succ m =>
    have hne := hne S
    simp only [Lb.df__law_wide, af, ↓Z, Vl, VC, ↓ZL, ↓ZC, ↓reduceIte, Nat.reduceAdd, Nat.reduceSub, q_i0, q_i1, zipR, z_kok, z_ret, eq_self, decide_true, decide_false, Bool.not_true, Bool.not_false, len_r, List.length_range, List.length_map, hne, Nat.succ_pos, idx_r0 (Nat.succ_pos m), wd_pos (Nat.succ_pos m)]
theorem like_ok {P : Prg} {k m n : Nat} {u v : Nat → Nat → Rat} {L : List (Option D)} {S : Sto} (af : P.af = 60) (fw : P.defs.lookup ("width_of" : Str) = some Lb.df_width_of) (f : P.defs.lookup ("need_like" : Str) = some Lb.df_need_like) : callN P (k + 2) "need_like" [tD m n u, tD m n v] L S = some (.ok (.val .non), S) := by
  refine call_nx f rfl ?_
  simp only [Lb.df_need_like, af, ↓Z, Vl, VC, ↓ZL, ↓ZC, ↓reduceIte, Nat.reduceAdd, Nat.reduceSub, q_i0, q_i1, zipR, z_kok, z_ret, eq_self, decide_true, decide_false, Bool.not_true, Bool.not_false, len_r, List.length_range, List.length_map, ↓z_callSD (width_ok af fw)]
theorem square_ok {P : Prg} {k m : Nat} {u : Nat → Nat → Rat} {L : List (Option D)} {S : Sto} (af : P.af = 60) (fw : P.defs.lookup ("width_of" : Str) = some Lb.df_width_of) (f : P.defs.lookup ("is_square" : Str) = some Lb.df_is_square) : callN P (k + 2) "is_square" [tD m m u] L S = some (.ok (.val (.bl true)), S) := by
  refine call_rt f rfl ?_
  simp only [Lb.df_is_square, af, ↓Z, Vl, VC, ↓ZL, ↓ZC, ↓reduceIte, Nat.reduceAdd, Nat.reduceSub, q_i0, q_i1, zipR, z_kok, z_ret, eq_self, decide_true, decide_false, Bool.not_true, Bool.not_false, len_r, List.length_range, List.length_map, ↓z_callSD (width_ok af fw), wd_self]
theorem sum_by_ok {P : Prg} {k m n : Nat} {u v : Nat → Nat → Rat} {L : List (Option D)} {S : Sto} (H : HasS P) (fr : P.defs.lookup ("row_plus" : Str) = some Lb.df_row_plus) (f : P.defs.lookup ("sum_by" : Str) = some Lb.df_sum_by) (hu : ∀ i < m, ∀ j < n, Rb 3900 (u i j)) (hv : ∀ i < m, ∀ j < n, Rb 3800 (v i j)) (hm : m ≤ 1000) (hn : n ≤ 1000) :
    callN P (k + 4) "sum_by" [tD m n u, tD m n v] L S = some (.ok (.val (tD m n fun i j => u i j + 1 * v i j)), S) := by
  refine call_rt f rfl ?_
  simp only [Lb.df_sum_by, H.r.af, ↓Z, Vl, VC, ↓ZL, ↓ZC, ↓reduceIte, Nat.reduceAdd, Nat.reduceSub, q_i0, q_i1, zipR, z_kok, z_ret, eq_self, decide_true, decide_false, Bool.not_true, Bool.not_false, len_r, List.length_range, List.length_map]
  rw [z_runD (lcB_enc (fun i => .tup [rD n (u i), rD n (v i)]) (fun i => rD n fun j => u i j + 1 * v i j) ?_ ?_ ?_ ?_ ?_)]
  · simp only [↓Z, Vl, VC, ↓ZL, ↓ZC, ↓reduceIte, Nat.reduceAdd, Nat.reduceSub, q_i0, q_i1, zipR, z_kok, z_ret, eq_self, decide_true, decide_false, Bool.not_true, Bool.not_false, len_r, List.length_range, List.length_map]
  · exact range_len_le hm
  · rfl
  · rfl
  · rfl
  · intro i hi
    have hi := List.mem_range.mp hi
    have o : Rb 1 (1 : Rat) := ⟨by unfold Sm; decide, by unfold Sm; decide⟩
    have e1 := row_plus_ok (P := P) (k := k) (L := L) (S := S) (c := 1) H fr (o.mono (by decide)) (hu i hi) (fun j hj => ⟨(hv i hi j hj).mono (by decide), (o.mul (hv i hi j hj)).mono (by decide)⟩) hn
    rw [show qD (1 : Rat) = .tup [.int 1, .int 1] from rfl] at e1
    simp only [↓Z, Vl, VC, ↓ZL, ↓ZC, ↓reduceIte, Nat.reduceAdd, Nat.reduceSub, q_i0, q_i1, zipR, z_kok, z_ret, eq_self, decide_true, decide_false, Bool.not_true, Bool.not_false, len_r, List.length_range, List.length_map, ↓z_callSD e1]
theorem less_by_ok {P : Prg} {k m n : Nat} {u v : Nat → Nat → Rat} {L : List (Option D)} {S : Sto} (H : HasS P) (fr : P.defs.lookup ("row_plus" : Str) = some Lb.df_row_plus) (f : P.defs.lookup ("less_by" : Str) = some Lb.df_less_by) (hu : ∀ i < m, ∀ j < n, Rb 3900 (u i j)) (hv : ∀ i < m, ∀ j < n, Rb 3800 (v i j)) (hm : m ≤ 1000) (hn : n ≤ 1000) :
    callN P (k + 4) "less_by" [tD m n u, tD m n v] L S = some (.ok (.val (tD m n fun i j => u i j + -1 * v i j)), S) := by
  refine call_rt f rfl ?_
  simp only [Lb.df_less_by, H.r.af, ↓Z, Vl, VC, ↓ZL, ↓ZC, ↓reduceIte, Nat.reduceAdd, Nat.reduceSub, q_i0, q_i1, zipR, z_kok, z_ret, eq_self, decide_true, decide_false, Bool.not_true, Bool.not_false, len_r, List.length_range, List.length_map]
  rw [z_runD (lcB_enc (fun i => .tup [rD n (u i), rD n (v i)]) (fun i => rD n fun j => u i j + -1 * v i j) ?_ ?_ ?_ ?_ ?_)]
  · simp only [↓Z, Vl, VC, ↓ZL, ↓ZC, ↓reduceIte, Nat.reduceAdd, Nat.reduceSub, q_i0, q_i1, zipR, z_kok, z_ret, eq_self, decide_true, decide_false, Bool.not_true, Bool.not_false, len_r, List.length_range, List.length_map]
  · exact range_len_le hm
  · rfl
  · rfl
  · rfl
  · intro i hi
    have hi := List.mem_range.mp hi
    have o : Rb 1 ((-1) : Rat) := ⟨by unfold Sm; decide, by unfold Sm; decide⟩
    have e1 := row_plus_ok (P := P) (k := k) (L := L) (S := S) (c := (-1)) H fr (o.mono (by decide)) (hu i hi) (fun j hj => ⟨(hv i hi j hj).mono (by decide), (o.mul (hv i hi j hj)).mono (by decide)⟩) hn
    rw [show qD (-1 : Rat) = .tup [.int (-1), .int 1] from rfl] at e1
    simp only [↓Z, Vl, VC, ↓ZL, ↓ZC, ↓reduceIte, Nat.reduceAdd, Nat.reduceSub, q_i0, q_i1, zipR, z_kok, z_ret, eq_self, decide_true, decide_false, Bool.not_true, Bool.not_false, len_r, List.length_range, List.length_map, ↓z_callSD e1]
theorem times_by_ok {P : Prg} {k m n : Nat} {u : Nat → Nat → Rat} {c : Rat} {L : List (Option D)} {S : Sto} (H : HasS P) (f : P.defs.lookup ("times_by" : Str) = some Lb.df_times_by) (hu : ∀ i < m, ∀ j < n, Rb 3900 (u i j)) (hc : Rb 3900 c) (hm : m ≤ 1000) (hn : n ≤ 1000) :
    callN P (k + 3) "times_by" [tD m n u, qD c] L S = some (.ok (.val (tD m n fun i j => u i j * c)), S) := by
  refine call_rt f rfl ?_
  simp only [Lb.df_times_by, H.r.af, ↓Z, Vl, VC, ↓ZL, ↓ZC, ↓reduceIte, Nat.reduceAdd, Nat.reduceSub, q_i0, q_i1, zipR, z_kok, z_ret, eq_self, decide_true, decide_false, Bool.not_true, Bool.not_false, len_r, List.length_range, List.length_map]
  rw [z_runD (lcB_enc (fun i => rD n (u i)) (fun i => rD n fun j => u i j * c) ?_ ?_ ?_ ?_ ?_)]
  · simp only [↓Z, Vl, VC, ↓ZL, ↓ZC, ↓reduceIte, Nat.reduceAdd, Nat.reduceSub, q_i0, q_i1, zipR, z_kok, z_ret, eq_self, decide_true, decide_false, Bool.not_true, Bool.not_false, len_r, List.length_range, List.length_map]
  · exact range_len_le hm
  · rfl
  · rfl
  · rfl
  · intro i hi
    have hi := List.mem_range.mp hi
    simp only [↓Z, Vl, VC, ↓ZL, ↓ZC, ↓reduceIte, Nat.reduceAdd, Nat.reduceSub, q_i0, q_i1, zipR, z_kok, z_ret, eq_self, decide_true, decide_false, Bool.not_true, Bool.not_false, len_r, List.length_range, List.length_map]
    rw [z_runD (lcB_enc (fun j => qD (u i j)) (fun j => qD (u i j * c)) ?_ ?_ ?_ ?_ ?_)]
    · simp only [↓Z, Vl, VC, ↓ZL, ↓ZC, ↓reduceIte, Nat.reduceAdd, Nat.reduceSub, q_i0, q_i1, zipR, z_kok, z_ret, eq_self, decide_true, decide_false, Bool.not_true, Bool.not_false, len_r, List.length_range, List.length_map]
    · exact range_len_le hn
    · rfl
    · rfl
    · rfl
    · intro j hj
      have hj := List.mem_range.mp hj
      have e1 := scaled_ok (P := P) (k := k) (L := L) (S := S) H.r H.scaled (hu i hi j hj) hc
      simp only [↓Z, Vl, VC, ↓ZL, ↓ZC, ↓reduceIte, Nat.reduceAdd, Nat.reduceSub, q_i0, q_i1, zipR, z_kok, z_ret, eq_self, decide_true, decide_false, Bool.not_true, Bool.not_false, len_r, List.length_range, List.length_map, ↓z_callSD e1]
theorem rep_q {a : D} : ∀ {n : Nat}, (List.replicate n [a]).flatten = (List.range n).map fun _ => a
  | 0 => rfl
  | n + 1 => by
    rw [List.replicate_succ, List.flatten_cons, rep_q, List.range_succ_eq_map, List.map_cons, List.map_map]
    rfl
theorem mixed_ok {P : Prg} {k n p : Nat} {c : Nat → Rat} {g : Nat → Nat → Rat} {L : List (Option D)} {S : Sto} (H : HasS P) (fr : P.defs.lookup ("row_plus" : Str) = some Lb.df_row_plus) (f : P.defs.lookup ("mixed_by" : Str) = some Lb.df_mixed_by) (hc : ∀ i < n, Rb 3900 (c i)) (hg : ∀ i < n, ∀ j < p, Rb 3900 (g i j) ∧ Rb 3900 (c i * g i j)) (hs : ∀ i < n, ∀ j < p, Rb 3900 (sumN i fun t => c t * g t j)) (hp : p ≤ 1000) :
    callN P (k + 4) "mixed_by" [rD n c, tD n p g, .int p] L S = some (.ok (.val (rD p fun j => sumN n fun t => c t * g t j)), S) := by
  refine call_rt f rfl ?_
  have tm := b_tmulN (a := [qD 0]) (n := p) (by simp) hp (by decide)
  rw [rep_q, show qD (0 : Rat) = .tup [.int 0, .int 1] from rfl] at tm
  obtain ⟨s', r, J⟩ := for_rng (t := [4, 5]) (one := false) (body := sL (ev P (callN P (k + 3)) 59) [(.set (.nm 3) (.call "row_plus" [(.var 3), (.var 4), (.var 5)]))]) (enc := fun i => .tup [qD (c i), rD p (g i)]) (n := n)
    (s := ⟨[.val (rD n c), .val (tD n p g), .val (.int p), .val (rD p fun _ => 0), .un, .un], S, L⟩)
    (fun i s => ∃ e4 e5, (∀ l b, setE (e4 :: l) 0 b = some (b :: l)) ∧ (∀ l b, setE (e5 :: l) 0 b = some (b :: l)) ∧ s = ⟨[.val (rD n c), .val (tD n p g), .val (.int p), .val (rD p fun j => sumN i fun t => c t * g t j), e4, e5], S, L⟩)
    ⟨.un, .un, fun _ _ => rfl, fun _ _ => rfl, rfl⟩ (fun i s hi ⟨e4, e5, h4, h5, e⟩ => by
      subst e
      have e1 := row_plus_ok (P := P) (k := k) (L := L) (S := S) (u := fun j => sumN i fun t => c t * g t j) (v := g i) H fr (hc i hi) (fun j hj => hs i hi j hj) (fun j hj => hg i hi j hj) hp
      refine ⟨⟨[.val (rD n c), .val (tD n p g), .val (.int p), .val (rD p fun j => sumN (i + 1) fun t => c t * g t j), .val (qD (c i)), .val (rD p (g i))], S, L⟩, ?_, ⟨_, _, fun _ _ => rfl, fun _ _ => rfl, rfl⟩⟩
      rw [z_lap]
      simp only [↓Z, Vl, VC, ↓ZL, ↓ZC, ↓reduceIte, Nat.reduceAdd, Nat.reduceSub, q_i0, q_i1, zipR, z_kok, z_ret, eq_self, decide_true, decide_false, Bool.not_true, Bool.not_false, len_r, List.length_range, List.length_map, h4, h5, ↓z_callS e1, sumN])
  obtain ⟨e4, e5, _, _, rfl⟩ := J
  simp only [Lb.df_mixed_by, H.r.af, ↓Z, Vl, VC, ↓ZL, ↓ZC, ↓reduceIte, Nat.reduceAdd, Nat.reduceSub, q_i0, q_i1, zipR, z_kok, z_ret, eq_self, decide_true, decide_false, Bool.not_true, Bool.not_false, len_r, List.length_range, List.length_map, tm]
  rw [z_lends rfl, z_run (show forL _ _ _ _ ⟨[.val (rD n c), .val (tD n p g), .val (.int p), .val (.tup ((List.range p).map fun _ => .tup [.int 0, .int 1])), .un, .un], S, L⟩ = _ from r)]
  simp only [↓Z, Vl, VC, ↓ZL, ↓ZC, ↓reduceIte, Nat.reduceAdd, Nat.reduceSub, q_i0, q_i1, zipR, z_kok, z_ret, eq_self, decide_true, decide_false, Bool.not_true, Bool.not_false, len_r, List.length_range, List.length_map]
/-- the product of two tables -/
def mm (n : Nat) (f g : Nat → Nat → Rat) : Nat → Nat → Rat := fun i j => sumN n fun t => f i t * g t j
theorem product_by_ok {P : Prg} {k m n p : Nat} {u v : Nat → Nat → Rat} {L : List (Option D)} {S : Sto} (H : HasS P) (fr : P.defs.lookup ("row_plus" : Str) = some Lb.df_row_plus) (fm : P.defs.lookup ("mixed_by" : Str) = some Lb.df_mixed_by) (fw : P.defs.lookup ("width_of" : Str) = some Lb.df_width_of) (f : P.defs.lookup ("product_by" : Str) = some Lb.df_product_by)
    (hu : ∀ i < m, ∀ t < n, Rb 3900 (u i t)) (hv : ∀ i < m, ∀ t < n, ∀ j < p, Rb 3900 (v t j) ∧ Rb 3900 (u i t * v t j) ∧ Rb 3900 (sumN t fun t => u i t * v t j)) (hm : m ≤ 1000) (hp : p ≤ 1000) :
    callN P (k + 5) "product_by" [tD m n u, tD n p v] L S = some (.ok (.val (tD m (wd n p) (mm n u v))), S) := by
  refine call_rt f rfl ?_
  simp only [Lb.df_product_by, H.r.af, ↓Z, Vl, VC, ↓ZL, ↓ZC, ↓reduceIte, Nat.reduceAdd, Nat.reduceSub, q_i0, q_i1, zipR, z_kok, z_ret, eq_self, decide_true, decide_false, Bool.not_true, Bool.not_false, len_r, List.length_range, List.length_map]
  rw [z_runD (lcB_enc (fun i => rD n (u i)) (fun i => rD (wd n p) (mm n u v i)) ?_ ?_ ?_ ?_ ?_)]
  · simp only [↓Z, Vl, VC, ↓ZL, ↓ZC, ↓reduceIte, Nat.reduceAdd, Nat.reduceSub, q_i0, q_i1, zipR, z_kok, z_ret, eq_self, decide_true, decide_false, Bool.not_true, Bool.not_false, len_r, List.length_range, List.length_map]
  · exact range_len_le hm
  · rfl
  · rfl
  · rfl
  · intro i hi
    have hi := List.mem_range.mp hi
    have tt : tD n p v = tD n (wd n p) v := by
      cases n with
      | zero => rfl
      | succ n => rw [wd_pos (Nat.succ_pos n)]
    have lp : ∀ j < wd n p, j < p := fun j hj => Nat.lt_of_lt_of_le hj wd_le
    have e1 := mixed_ok (P := P) (k := k) (L := L) (S := S) (c := u i) (g := v) (n := n) (p := wd n p) H fr fm (hu i hi) (fun t ht j hj => ⟨(hv i hi t ht j (lp j hj)).1, (hv i hi t ht j (lp j hj)).2.1⟩) (fun t ht j hj => (hv i hi t ht j (lp j hj)).2.2) (Nat.le_trans wd_le hp)
    rw [← tt] at e1
    simp only [↓Z, Vl, VC, ↓ZL, ↓ZC, ↓reduceIte, Nat.reduceAdd, Nat.reduceSub, q_i0, q_i1, zipR, z_kok, z_ret, eq_self, decide_true, decide_false, Bool.not_true, Bool.not_false, len_r, List.length_range, List.length_map, ↓z_callSD (width_ok H.r.af fw), ↓z_callSD e1]
    rfl
theorem turned_by_ok {P : Prg} {k m n : Nat} {u : Nat → Nat → Rat} {L : List (Option D)} {S : Sto} (af : P.af = 60) (fw : P.defs.lookup ("width_of" : Str) = some Lb.df_width_of) (f : P.defs.lookup ("turned_by" : Str) = some Lb.df_turned_by) (hm : m ≤ 1000) (hn : n ≤ 1000) :
    callN P (k + 2) "turned_by" [tD m n u] L S = some (.ok (.val (tD (wd m n) m fun i j => u j i)), S) := by
  refine call_rt f rfl ?_
  have s6 : small62 ((wd m n : Nat) : Int) = true := by
    unfold small62
    have := wd_le (m := m) (n := n)
    exact Nat.ble_eq_true_of_le (by omega)
  simp only [Lb.df_turned_by, af, ↓Z, Vl, VC, ↓ZL, ↓ZC, ↓reduceIte, Nat.reduceAdd, Nat.reduceSub, q_i0, q_i1, zipR, z_kok, z_ret, eq_self, decide_true, decide_false, Bool.not_true, Bool.not_false, len_r, List.length_range, List.length_map, ↓z_callSD (width_ok af fw), s6, Int.toNat_natCast, range_map]
  rw [z_runD (lcB_enc (fun i => .int (i : Nat)) (fun i => rD m fun j => u j i) ?_ ?_ ?_ ?_ ?_)]
  · simp only [↓Z, Vl, VC, ↓ZL, ↓ZC, ↓reduceIte, Nat.reduceAdd, Nat.reduceSub, q_i0, q_i1, zipR, z_kok, z_ret, eq_self, decide_true, decide_false, Bool.not_true, Bool.not_false, len_r, List.length_range, List.length_map]
  · exact range_len_le (Nat.le_trans wd_le hn)
  · rfl
  · rfl
  · rfl
  · intro i hi
    have hi : i < n := Nat.lt_of_lt_of_le (List.mem_range.mp hi) wd_le
    simp only [↓Z, Vl, VC, ↓ZL, ↓ZC, ↓reduceIte, Nat.reduceAdd, Nat.reduceSub, q_i0, q_i1, zipR, z_kok, z_ret, eq_self, decide_true, decide_false, Bool.not_true, Bool.not_false, len_r, List.length_range, List.length_map]
    rw [z_runD (lcB_enc (fun j => rD n (u j)) (fun j => qD (u j i)) ?_ ?_ ?_ ?_ ?_)]
    · simp only [↓Z, Vl, VC, ↓ZL, ↓ZC, ↓reduceIte, Nat.reduceAdd, Nat.reduceSub, q_i0, q_i1, zipR, z_kok, z_ret, eq_self, decide_true, decide_false, Bool.not_true, Bool.not_false, len_r, List.length_range, List.length_map]
    · exact range_len_le hm
    · rfl
    · rfl
    · rfl
    · intro j hj
      simp only [↓Z, Vl, VC, ↓ZL, ↓ZC, ↓reduceIte, Nat.reduceAdd, Nat.reduceSub, q_i0, q_i1, zipR, z_kok, z_ret, eq_self, decide_true, decide_false, Bool.not_true, Bool.not_false, len_r, List.length_range, List.length_map, idx_rn hi]
theorem s6N {n : Nat} (h : n ≤ 1000) : small62 ((n : Nat) : Int) = true := by
  unfold small62
  exact Nat.ble_eq_true_of_le (by omega)
theorem one_q : qD (1 : Rat) = .tup [.int 1, .int 1] := rfl
theorem nil_q : qD (0 : Rat) = .tup [.int 0, .int 1] := rfl
theorem unit_row_ok {P : Prg} {k n i : Nat} {L : List (Option D)} {S : Sto} (af : P.af = 60) (f : P.defs.lookup ("unit_row" : Str) = some Lb.df_unit_row) (hn : n ≤ 1000) : callN P (k + 1) "unit_row" [.int n, .int i] L S = some (.ok (.val (rD n fun j => if j = i then 1 else 0)), S) := by
  refine call_rt f rfl ?_
  simp only [Lb.df_unit_row, af, ↓Z, Vl, VC, ↓ZL, ↓ZC, ↓reduceIte, Nat.reduceAdd, Nat.reduceSub, q_i0, q_i1, zipR, z_kok, z_ret, eq_self, decide_true, decide_false, Bool.not_true, Bool.not_false, len_r, List.length_range, List.length_map, s6N hn, Int.toNat_natCast, range_map]
  rw [z_runD (lcB_enc (fun j => .int (j : Nat)) (fun j => qD (if j = i then 1 else 0)) ?_ ?_ ?_ ?_ ?_)]
  · simp only [↓Z, Vl, VC, ↓ZL, ↓ZC, ↓reduceIte, Nat.reduceAdd, Nat.reduceSub, q_i0, q_i1, zipR, z_kok, z_ret, eq_self, decide_true, decide_false, Bool.not_true, Bool.not_false, len_r, List.length_range, List.length_map]
  · exact range_len_le hn
  · rfl
  · rfl
  · rfl
  · intro j hj
    by_cases h : j = i
    · have h2 : ((j : Nat) : Int) = i := by omega
      simp only [↓Z, Vl, VC, ↓ZL, ↓ZC, ↓reduceIte, Nat.reduceAdd, Nat.reduceSub, q_i0, q_i1, zipR, z_kok, z_ret, eq_self, decide_true, decide_false, Bool.not_true, Bool.not_false, len_r, List.length_range, List.length_map, h, one_q]
    · have h2 : ¬ ((j : Nat) : Int) = i := by omega
      simp only [↓Z, Vl, VC, ↓ZL, ↓ZC, ↓reduceIte, Nat.reduceAdd, Nat.reduceSub, q_i0, q_i1, zipR, z_kok, z_ret, eq_self, decide_true, decide_false, Bool.not_true, Bool.not_false, len_r, List.length_range, List.length_map, h, h2, nil_q]
theorem unit_by_ok {P : Prg} {k n : Nat} {L : List (Option D)} {S : Sto} (af : P.af = 60) (fr : P.defs.lookup ("unit_row" : Str) = some Lb.df_unit_row) (f : P.defs.lookup ("unit_by" : Str) = some Lb.df_unit_by) (hn : n ≤ 1000) : callN P (k + 2) "unit_by" [.int n] L S = some (.ok (.val (tD n n fun i j => if j = i then 1 else 0)), S) := by
  refine call_rt f rfl ?_
  simp only [Lb.df_unit_by, af, ↓Z, Vl, VC, ↓ZL, ↓ZC, ↓reduceIte, Nat.reduceAdd, Nat.reduceSub, q_i0, q_i1, zipR, z_kok, z_ret, eq_self, decide_true, decide_false, Bool.not_true, Bool.not_false, len_r, List.length_range, List.length_map, s6N hn, Int.toNat_natCast, range_map]
  rw [z_runD (lcB_enc (fun j => .int (j : Nat)) (fun i => rD n fun j => if j = i then 1 else 0) ?_ ?_ ?_ ?_ ?_)]
  · simp only [↓Z, Vl, VC, ↓ZL, ↓ZC, ↓reduceIte, Nat.reduceAdd, Nat.reduceSub, q_i0, q_i1, zipR, z_kok, z_ret, eq_self, decide_true, decide_false, Bool.not_true, Bool.not_false, len_r, List.length_range, List.length_map]
  · exact range_len_le hn
  · rfl
  · rfl
  · rfl
  · intro i hi
    simp only [↓Z, Vl, VC, ↓ZL, ↓ZC, ↓reduceIte, Nat.reduceAdd, Nat.reduceSub, q_i0, q_i1, zipR, z_kok, z_ret, eq_self, decide_true, decide_false, Bool.not_true, Bool.not_false, len_r, List.length_range, List.length_map, ↓z_callSD (unit_row_ok (P := P) af fr hn)]
theorem between_ok {P : Prg} {k : Nat} {i : Int} {x : Str} {L : List (Option D)} {S : Sto} (H : HasR P) (f : P.defs.lookup ("need_between" : Str) = some Lb.df_need_between) (h0 : 0 ≤ i) (h1 : i ≤ 12) : callN P (k + 2) "need_between" [.str x, .int i, .int 0, .int 12] L S = some (.ok (.val .non), S) := by
  refine call_nx f rfl ?_
  have a : ¬ i < 0 := by omega
  have b : ¬ 12 < i := by omega
  simp only [Lb.df_need_between, H.af, ↓Z, Vl, VC, ↓ZL, ↓ZC, ↓reduceIte, Nat.reduceAdd, Nat.reduceSub, q_i0, q_i1, zipR, z_kok, z_ret, eq_self, decide_true, decide_false, Bool.not_true, Bool.not_false, len_r, List.length_range, List.length_map, ↓z_callSD (whole_int H), a, b]
theorem unit_table_ok {P : Prg} {k n : Nat} {L : List (Option D)} {S : Sto} (H : HasR P) (fb : P.defs.lookup ("need_between" : Str) = some Lb.df_need_between) (fr : P.defs.lookup ("unit_row" : Str) = some Lb.df_unit_row) (fu : P.defs.lookup ("unit_by" : Str) = some Lb.df_unit_by) (f : P.defs.lookup ("unit_table" : Str) = some Lb.df_unit_table) (hn : n ≤ 12) : callN P (k + 3) "unit_table" [.int n] L S = some (.ok (.val (tD n n fun i j => if j = i then 1 else 0)), S) := by
  refine call_rt f rfl ?_
  have e1 := between_ok (P := P) (k := k) (i := n) (x := "size") (L := L) (S := S) H fb (by omega) (by omega)
  have e2 := unit_by_ok (P := P) (k := k) (L := L) (S := S) H.af fr fu (show n ≤ 1000 by omega)
  simp only [Lb.df_unit_table, H.af, ↓Z, Vl, VC, ↓ZL, ↓ZC, ↓reduceIte, Nat.reduceAdd, Nat.reduceSub, q_i0, q_i1, zipR, z_kok, z_ret, eq_self, decide_true, decide_false, Bool.not_true, Bool.not_false, len_r, List.length_range, List.length_map, ↓z_callS e1, ↓z_callS e2]
/-- powers of a table -/
def pw (n : Nat) (f : Nat → Nat → Rat) : Nat → Nat → Nat → Rat
  | 0 => fun i j => if j = i then 1 else 0
  | t + 1 => mm n (pw n f t) f
/-! ### the law's own -/
structure HasA (P : Prg) : Prop where
  q : HasQ P
  plus : P.defs.lookup ("_law_plus" : Str) = some Lb.df__law_plus
  times : P.defs.lookup ("_law_times" : Str) = some Lb.df__law_times
theorem lsum_ok {P : Prg} {k n : Nat} {h : Nat → Rat} {L : List (Option D)} {S : Sto} (H : HasA P) (f : P.defs.lookup ("_law_sum" : Str) = some Lb.df__law_sum) (hh : ∀ i < n, Rb 3900 (h i) ∧ Rb 3900 (sumN i h)) :
    callN P (k + 4) "_law_sum" [.lst ((List.range n).map fun i => qD (h i))] L S = some (.ok (.val (qD (sumN n h))), S) := by
  refine call_rt f rfl ?_
  obtain ⟨s', r, J⟩ := for_rng (t := [2]) (one := true) (body := sL (ev P (callN P (k + 3)) 59) [(.set (.nm 1) (.call "_law_plus" [(.var 1), (.var 2)]))]) (enc := fun i => qD (h i)) (n := n)
    (s := ⟨[.val (.lst ((List.range n).map fun i => qD (h i))), .val (.tup [.int 0, .int 1]), .un], S, L⟩)
    (fun i s => ∃ e4, (∀ l b, setE (e4 :: l) 0 b = some (b :: l)) ∧ s = ⟨[.val (.lst ((List.range n).map fun i => qD (h i))), .val (qD (sumN i h)), e4], S, L⟩)
    ⟨.un, fun _ _ => rfl, rfl⟩ (fun i s hi ⟨e4, h4, e⟩ => by
      subst e
      have e1 := law_plus (P := P) (k := k) (L := L) (S := S) H.q H.plus (hh i hi).2 (hh i hi).1
      refine ⟨⟨[.val (.lst ((List.range n).map fun i => qD (h i))), .val (qD (sumN (i + 1) h)), .val (qD (h i))], S, L⟩, ?_, ⟨_, fun _ _ => rfl, rfl⟩⟩
      rw [z_lap]
      simp only [↓Z, Vl, VC, ↓ZL, ↓ZC, ↓reduceIte, Nat.reduceAdd, Nat.reduceSub, q_i0, q_i1, zipR, z_kok, z_ret, eq_self, decide_true, decide_false, Bool.not_true, Bool.not_false, len_r, List.length_range, List.length_map, h4, ↓z_callS e1, sumN])
  obtain ⟨e4, _, rfl⟩ := J
  simp only [Lb.df__law_sum, H.q.af, ↓Z, Vl, VC, ↓ZL, ↓ZC, ↓reduceIte, Nat.reduceAdd, Nat.reduceSub, q_i0, q_i1, zipR, z_kok, z_ret, eq_self, decide_true, decide_false, Bool.not_true, Bool.not_false, len_r, List.length_range, List.length_map]
  rw [z_lends rfl, z_run r]
  simp only [↓Z, Vl, VC, ↓ZL, ↓ZC, ↓reduceIte, Nat.reduceAdd, Nat.reduceSub, q_i0, q_i1, zipR, z_kok, z_ret, eq_self, decide_true, decide_false, Bool.not_true, Bool.not_false, len_r, List.length_range, List.length_map]
theorem rep_l {a : D} {n : Nat} : (List.replicate n [a]).flatten = (List.range n).map fun _ => a := rep_q
theorem b_lmulN {a : D} {n : Nat} (h : n ≤ 1000) : binop .Mult (.lst [a]) (.int (n : Int)) = some (.fresh ((List.range n).map fun _ => a)) := by
  have t1 : ((n : Nat) : Int).natAbs ≤ 1000000000 := by omega
  have t3 : [a].length * ((n : Nat) : Int).toNat = n := by rw [Int.toNat_natCast, List.length_singleton, Nat.one_mul]
  have t4 : [a].length * ((n : Nat) : Int).toNat ≤ line := by rw [t3]; exact le_line h
  rw [b_lmul ⟨t1, t4⟩, Int.toNat_natCast, rep_q]
theorem lzeros_ok {P : Prg} {k n : Nat} {L : List (Option D)} {S : Sto} (af : P.af = 60) (f : P.defs.lookup ("_law_zeros" : Str) = some Lb.df__law_zeros) (hn : n ≤ 1000) : callN P (k + 1) "_law_zeros" [.int n] L S = some (.ok (.val (rD n fun _ => 0)), S) := by
  refine call_rt f rfl ?_
  simp only [Lb.df__law_zeros, af, ↓Z, Vl, VC, ↓ZL, ↓ZC, ↓reduceIte, Nat.reduceAdd, Nat.reduceSub, q_i0, q_i1, zipR, z_kok, z_ret, eq_self, decide_true, decide_false, Bool.not_true, Bool.not_false, len_r, List.length_range, List.length_map, b_lmulN hn]
  rfl
theorem lrow_table_ok {P : Prg} {k n p x : Nat} {u : Nat → Rat} {v : Nat → Nat → Rat} {L : List (Option D)} {S : Sto} (H : HasA P) (fs : P.defs.lookup ("_law_sum" : Str) = some Lb.df__law_sum) (f : P.defs.lookup ("_law_row_table" : Str) = some Lb.df__law_row_table) (hx : x ≤ p) (hp : p ≤ 1000) (hn : n ≤ 1000)
    (hu : ∀ t < n, Rb 3900 (u t)) (hv : ∀ t < n, ∀ j < p, Rb 3900 (v t j) ∧ Rb 3900 (u t * v t j) ∧ Rb 3900 (sumN t fun t => u t * v t j)) :
    callN P (k + 5) "_law_row_table" [rD n u, tD n p v, .int x] L S = some (.ok (.val (rD x fun j => sumN n fun t => u t * v t j)), S) := by
  refine call_rt f rfl ?_
  simp only [Lb.df__law_row_table, H.q.af, ↓Z, Vl, VC, ↓ZL, ↓ZC, ↓reduceIte, Nat.reduceAdd, Nat.reduceSub, q_i0, q_i1, zipR, z_kok, z_ret, eq_self, decide_true, decide_false, Bool.not_true, Bool.not_false, len_r, List.length_range, List.length_map, s6N (Nat.le_trans hx hp), Int.toNat_natCast, range_map]
  rw [z_runD (lcB_enc (fun j => .int (j : Nat)) (fun j => qD (sumN n fun t => u t * v t j)) ?_ ?_ ?_ ?_ ?_)]
  · simp only [↓Z, Vl, VC, ↓ZL, ↓ZC, ↓reduceIte, Nat.reduceAdd, Nat.reduceSub, q_i0, q_i1, zipR, z_kok, z_ret, eq_self, decide_true, decide_false, Bool.not_true, Bool.not_false, len_r, List.length_range, List.length_map]
  · exact range_len_le (Nat.le_trans hx hp)
  · rfl
  · rfl
  · rfl
  · intro j hj
    have hj : j < p := Nat.lt_of_lt_of_le (List.mem_range.mp hj) hx
    simp only [↓Z, Vl, VC, ↓ZL, ↓ZC, ↓reduceIte, Nat.reduceAdd, Nat.reduceSub, q_i0, q_i1, zipR, z_kok, z_ret, eq_self, decide_true, decide_false, Bool.not_true, Bool.not_false, len_r, List.length_range, List.length_map]
    rw [z_runD (lcB_enc (fun t => .tup [qD (u t), rD p (v t)]) (fun t => qD (u t * v t j)) ?_ ?_ ?_ ?_ ?_)]
    · have e1 := lsum_ok (P := P) (k := k) (L := L) (S := S) (h := fun t => u t * v t j) (n := n) H fs (fun t ht => (hv t ht j hj).2)
      simp only [↓Z, Vl, VC, ↓ZL, ↓ZC, ↓reduceIte, Nat.reduceAdd, Nat.reduceSub, q_i0, q_i1, zipR, z_kok, z_ret, eq_self, decide_true, decide_false, Bool.not_true, Bool.not_false, len_r, List.length_range, List.length_map, ↓z_callSD e1]
    · exact range_len_le hn
    · rfl
    · rfl
    · rfl
    · intro t ht
      have ht := List.mem_range.mp ht
      have e1 := law_times (P := P) (k := k + 1) (L := L) (S := S) H.q H.times (hu t ht) (hv t ht j hj).1
      simp only [↓Z, Vl, VC, ↓ZL, ↓ZC, ↓reduceIte, Nat.reduceAdd, Nat.reduceSub, q_i0, q_i1, zipR, z_kok, z_ret, eq_self, decide_true, decide_false, Bool.not_true, Bool.not_false, len_r, List.length_range, List.length_map, idx_rn hj, ↓z_callSD e1]
theorem ladd_ok {P : Prg} {k n : Nat} {u v : Nat → Rat} {L : List (Option D)} {S : Sto} (H : HasA P) (f : P.defs.lookup ("_law_add" : Str) = some Lb.df__law_add) (hn : n ≤ 1000) (hu : ∀ j < n, Rb 3900 (u j)) (hv : ∀ j < n, Rb 3900 (v j)) :
    callN P (k + 4) "_law_add" [rD n u, rD n v] L S = some (.ok (.val (rD n fun j => u j + v j)), S) := by
  refine call_rt f rfl ?_
  simp only [Lb.df__law_add, H.q.af, ↓Z, Vl, VC, ↓ZL, ↓ZC, ↓reduceIte, Nat.reduceAdd, Nat.reduceSub, q_i0, q_i1, zipR, z_kok, z_ret, eq_self, decide_true, decide_false, Bool.not_true, Bool.not_false, len_r, List.length_range, List.length_map]
  rw [z_runD (lcB_enc (fun j => .tup [qD (u j), qD (v j)]) (fun j => qD (u j + v j)) ?_ ?_ ?_ ?_ ?_)]
  · simp only [↓Z, Vl, VC, ↓ZL, ↓ZC, ↓reduceIte, Nat.reduceAdd, Nat.reduceSub, q_i0, q_i1, zipR, z_kok, z_ret, eq_self, decide_true, decide_false, Bool.not_true, Bool.not_false, len_r, List.length_range, List.length_map]
  · exact range_len_le hn
  · rfl
  · rfl
  · rfl
  · intro j hj
    have hj := List.mem_range.mp hj
    have e1 := law_plus (P := P) (k := k) (L := L) (S := S) H.q H.plus (hu j hj) (hv j hj)
    simp only [↓Z, Vl, VC, ↓ZL, ↓ZC, ↓reduceIte, Nat.reduceAdd, Nat.reduceSub, q_i0, q_i1, zipR, z_kok, z_ret, eq_self, decide_true, decide_false, Bool.not_true, Bool.not_false, len_r, List.length_range, List.length_map, ↓z_callSD e1]
theorem lscaled_ok {P : Prg} {k n : Nat} {u : Nat → Rat} {c : Rat} {L : List (Option D)} {S : Sto} (H : HasA P) (f : P.defs.lookup ("_law_scaled" : Str) = some Lb.df__law_scaled) (hn : n ≤ 1000) (hu : ∀ j < n, Rb 3900 (u j)) (hc : Rb 3900 c) :
    callN P (k + 4) "_law_scaled" [rD n u, qD c] L S = some (.ok (.val (rD n fun j => u j * c)), S) := by
  refine call_rt f rfl ?_
  simp only [Lb.df__law_scaled, H.q.af, ↓Z, Vl, VC, ↓ZL, ↓ZC, ↓reduceIte, Nat.reduceAdd, Nat.reduceSub, q_i0, q_i1, zipR, z_kok, z_ret, eq_self, decide_true, decide_false, Bool.not_true, Bool.not_false, len_r, List.length_range, List.length_map]
  rw [z_runD (lcB_enc (fun j => qD (u j)) (fun j => qD (u j * c)) ?_ ?_ ?_ ?_ ?_)]
  · simp only [↓Z, Vl, VC, ↓ZL, ↓ZC, ↓reduceIte, Nat.reduceAdd, Nat.reduceSub, q_i0, q_i1, zipR, z_kok, z_ret, eq_self, decide_true, decide_false, Bool.not_true, Bool.not_false, len_r, List.length_range, List.length_map]
  · exact range_len_le hn
  · rfl
  · rfl
  · rfl
  · intro j hj
    have hj := List.mem_range.mp hj
    have e1 := law_times (P := P) (k := k) (L := L) (S := S) H.q H.times (hu j hj) hc
    simp only [↓Z, Vl, VC, ↓ZL, ↓ZC, ↓reduceIte, Nat.reduceAdd, Nat.reduceSub, q_i0, q_i1, zipR, z_kok, z_ret, eq_self, decide_true, decide_false, Bool.not_true, Bool.not_false, len_r, List.length_range, List.length_map, ↓z_callSD e1]
theorem lproduct_ok {P : Prg} {k m n p x : Nat} {u v : Nat → Nat → Rat} {L : List (Option D)} {S : Sto} (H : HasA P) (fs : P.defs.lookup ("_law_sum" : Str) = some Lb.df__law_sum) (fr : P.defs.lookup ("_law_row_table" : Str) = some Lb.df__law_row_table) (f : P.defs.lookup ("_law_product" : Str) = some Lb.df__law_product) (hx : x ≤ p) (hp : p ≤ 1000) (hn : n ≤ 1000) (hm : m ≤ 1000)
    (hu : ∀ i < m, ∀ t < n, Rb 3900 (u i t)) (hv : ∀ i < m, ∀ t < n, ∀ j < p, Rb 3900 (v t j) ∧ Rb 3900 (u i t * v t j) ∧ Rb 3900 (sumN t fun t => u i t * v t j)) :
    callN P (k + 6) "_law_product" [tD m n u, tD n p v, .int x] L S = some (.ok (.val (tD m x (mm n u v))), S) := by
  refine call_rt f rfl ?_
  simp only [Lb.df__law_product, H.q.af, ↓Z, Vl, VC, ↓ZL, ↓ZC, ↓reduceIte, Nat.reduceAdd, Nat.reduceSub, q_i0, q_i1, zipR, z_kok, z_ret, eq_self, decide_true, decide_false, Bool.not_true, Bool.not_false, len_r, List.length_range, List.length_map]
  rw [z_runD (lcB_enc (fun i => rD n (u i)) (fun i => rD x (mm n u v i)) ?_ ?_ ?_ ?_ ?_)]
  · simp only [↓Z, Vl, VC, ↓ZL, ↓ZC, ↓reduceIte, Nat.reduceAdd, Nat.reduceSub, q_i0, q_i1, zipR, z_kok, z_ret, eq_self, decide_true, decide_false, Bool.not_true, Bool.not_false, len_r, List.length_range, List.length_map]
  · exact range_len_le hm
  · rfl
  · rfl
  · rfl
  · intro i hi
    have hi := List.mem_range.mp hi
    have e1 := lrow_table_ok (P := P) (k := k) (L := L) (S := S) (u := u i) (v := v) H fs fr hx hp hn (hu i hi) (hv i hi)
    simp only [↓Z, Vl, VC, ↓ZL, ↓ZC, ↓reduceIte, Nat.reduceAdd, Nat.reduceSub, q_i0, q_i1, zipR, z_kok, z_ret, eq_self, decide_true, decide_false, Bool.not_true, Bool.not_false, len_r, List.length_range, List.length_map, ↓z_callSD e1]
    rfl
theorem ltable_sum_ok {P : Prg} {k m n : Nat} {u v : Nat → Nat → Rat} {L : List (Option D)} {S : Sto} (H : HasA P) (fa : P.defs.lookup ("_law_add" : Str) = some Lb.df__law_add) (f : P.defs.lookup ("_law_table_sum" : Str) = some Lb.df__law_table_sum) (hm : m ≤ 1000) (hn : n ≤ 1000) (hu : ∀ i < m, ∀ j < n, Rb 3900 (u i j)) (hv : ∀ i < m, ∀ j < n, Rb 3900 (v i j)) :
    callN P (k + 5) "_law_table_sum" [tD m n u, tD m n v] L S = some (.ok (.val (tD m n fun i j => u i j + v i j)), S) := by
  refine call_rt f rfl ?_
  simp only [Lb.df__law_table_sum, H.q.af, ↓Z, Vl, VC, ↓ZL, ↓ZC, ↓reduceIte, Nat.reduceAdd, Nat.reduceSub, q_i0, q_i1, zipR, z_kok, z_ret, eq_self, decide_true, decide_false, Bool.not_true, Bool.not_false, len_r, List.length_range, List.length_map]
  rw [z_runD (lcB_enc (fun i => .tup [rD n (u i), rD n (v i)]) (fun i => rD n fun j => u i j + v i j) ?_ ?_ ?_ ?_ ?_)]
  · simp only [↓Z, Vl, VC, ↓ZL, ↓ZC, ↓reduceIte, Nat.reduceAdd, Nat.reduceSub, q_i0, q_i1, zipR, z_kok, z_ret, eq_self, decide_true, decide_false, Bool.not_true, Bool.not_false, len_r, List.length_range, List.length_map]
  · exact range_len_le hm
  · rfl
  · rfl
  · rfl
  · intro i hi
    have hi := List.mem_range.mp hi
    have e1 := ladd_ok (P := P) (k := k) (L := L) (S := S) H fa hn (hu i hi) (hv i hi)
    simp only [↓Z, Vl, VC, ↓ZL, ↓ZC, ↓reduceIte, Nat.reduceAdd, Nat.reduceSub, q_i0, q_i1, zipR, z_kok, z_ret, eq_self, decide_true, decide_false, Bool.not_true, Bool.not_false, len_r, List.length_range, List.length_map, ↓z_callSD e1]
theorem lturned_ok {P : Prg} {k m n x : Nat} {u : Nat → Nat → Rat} {L : List (Option D)} {S : Sto} (af : P.af = 60) (f : P.defs.lookup ("_law_turned" : Str) = some Lb.df__law_turned) (hx : x ≤ n) (hm : m ≤ 1000) (hn : n ≤ 1000) :
    callN P (k + 1) "_law_turned" [tD m n u, .int x] L S = some (.ok (.val (tD x m fun i j => u j i)), S) := by
  refine call_rt f rfl ?_
  simp only [Lb.df__law_turned, af, ↓Z, Vl, VC, ↓ZL, ↓ZC, ↓reduceIte, Nat.reduceAdd, Nat.reduceSub, q_i0, q_i1, zipR, z_kok, z_ret, eq_self, decide_true, decide_false, Bool.not_true, Bool.not_false, len_r, List.length_range, List.length_map, s6N (Nat.le_trans hx hn), Int.toNat_natCast, range_map]
  rw [z_runD (lcB_enc (fun i => .int (i : Nat)) (fun i => rD m fun j => u j i) ?_ ?_ ?_ ?_ ?_)]
  · simp only [↓Z, Vl, VC, ↓ZL, ↓ZC, ↓reduceIte, Nat.reduceAdd, Nat.reduceSub, q_i0, q_i1, zipR, z_kok, z_ret, eq_self, decide_true, decide_false, Bool.not_true, Bool.not_false, len_r, List.length_range, List.length_map]
  · exact range_len_le (Nat.le_trans hx hn)
  · rfl
  · rfl
  · rfl
  · intro i hi
    have hi : i < n := Nat.lt_of_lt_of_le (List.mem_range.mp hi) hx
    simp only [↓Z, Vl, VC, ↓ZL, ↓ZC, ↓reduceIte, Nat.reduceAdd, Nat.reduceSub, q_i0, q_i1, zipR, z_kok, z_ret, eq_self, decide_true, decide_false, Bool.not_true, Bool.not_false, len_r, List.length_range, List.length_map]
    rw [z_runD (lcB_enc (fun j => rD n (u j)) (fun j => qD (u j i)) ?_ ?_ ?_ ?_ ?_)]
    · simp only [↓Z, Vl, VC, ↓ZL, ↓ZC, ↓reduceIte, Nat.reduceAdd, Nat.reduceSub, q_i0, q_i1, zipR, z_kok, z_ret, eq_self, decide_true, decide_false, Bool.not_true, Bool.not_false, len_r, List.length_range, List.length_map]
    · exact range_len_le hm
    · rfl
    · rfl
    · rfl
    · intro j hj
      simp only [↓Z, Vl, VC, ↓ZL, ↓ZC, ↓reduceIte, Nat.reduceAdd, Nat.reduceSub, q_i0, q_i1, zipR, z_kok, z_ret, eq_self, decide_true, decide_false, Bool.not_true, Bool.not_false, len_r, List.length_range, List.length_map, idx_rn hi]
theorem lunit_ok {P : Prg} {k n : Nat} {L : List (Option D)} {S : Sto} (af : P.af = 60) (f : P.defs.lookup ("_law_unit" : Str) = some Lb.df__law_unit) (hn : n ≤ 1000) : callN P (k + 1) "_law_unit" [.int n] L S = some (.ok (.val (tD n n fun i j => if j = i then 1 else 0)), S) := by
  refine call_rt f rfl ?_
  simp only [Lb.df__law_unit, af, ↓Z, Vl, VC, ↓ZL, ↓ZC, ↓reduceIte, Nat.reduceAdd, Nat.reduceSub, q_i0, q_i1, zipR, z_kok, z_ret, eq_self, decide_true, decide_false, Bool.not_true, Bool.not_false, len_r, List.length_range, List.length_map, s6N hn, Int.toNat_natCast, range_map]
  rw [z_runD (lcB_enc (fun j => .int (j : Nat)) (fun i => rD n fun j => if j = i then 1 else 0) ?_ ?_ ?_ ?_ ?_)]
  · simp only [↓Z, Vl, VC, ↓ZL, ↓ZC, ↓reduceIte, Nat.reduceAdd, Nat.reduceSub, q_i0, q_i1, zipR, z_kok, z_ret, eq_self, decide_true, decide_false, Bool.not_true, Bool.not_false, len_r, List.length_range, List.length_map]
  · exact range_len_le hn
  · rfl
  · rfl
  · rfl
  · intro i hi
    simp only [↓Z, Vl, VC, ↓ZL, ↓ZC, ↓reduceIte, Nat.reduceAdd, Nat.reduceSub, q_i0, q_i1, zipR, z_kok, z_ret, eq_self, decide_true, decide_false, Bool.not_true, Bool.not_false, len_r, List.length_range, List.length_map, s6N hn, Int.toNat_natCast, range_map]
    rw [z_runD (lcB_enc (fun j => .int (j : Nat)) (fun j => qD (if j = i then 1 else 0)) ?_ ?_ ?_ ?_ ?_)]
    · simp only [↓Z, Vl, VC, ↓ZL, ↓ZC, ↓reduceIte, Nat.reduceAdd, Nat.reduceSub, q_i0, q_i1, zipR, z_kok, z_ret, eq_self, decide_true, decide_false, Bool.not_true, Bool.not_false, len_r, List.length_range, List.length_map]
    · exact range_len_le hn
    · rfl
    · rfl
    · rfl
    · intro j hj
      by_cases h : j = i
      · simp only [↓Z, Vl, VC, ↓ZL, ↓ZC, ↓reduceIte, Nat.reduceAdd, Nat.reduceSub, q_i0, q_i1, zipR, z_kok, z_ret, eq_self, decide_true, decide_false, Bool.not_true, Bool.not_false, len_r, List.length_range, List.length_map, h, one_q]
      · have h2 : ¬ ((i : Nat) : Int) = j := by omega
        simp only [↓Z, Vl, VC, ↓ZL, ↓ZC, ↓reduceIte, Nat.reduceAdd, Nat.reduceSub, q_i0, q_i1, zipR, z_kok, z_ret, eq_self, decide_true, decide_false, Bool.not_true, Bool.not_false, len_r, List.length_range, List.length_map, h, h2, nil_q, Bool.false_eq_true]
end Rf
/-! Rw: data compared, tables taken in -/
namespace Rf
open PySem PySem.Spec L2
mutual
/-- numbers, in tuples and lists -/
def Nm : D → Prop
  | .non => True
  | .bl _ => True
  | .int _ => True
  | .tup l => NmL l
  | .lst l => NmL l
  | _ => False
def NmL : List D → Prop
  | [] => True
  | d :: l => Nm d ∧ NmL l
end
mutual
theorem nm_pd : ∀ d : D, Nm d → ∃ p, (∀ S, D.pd S d = some p) ∧ p.canLay0 = true ∧ p.depth = dd d ∧ PyData.eqv p p = true
  | .non, _ => ⟨.none, fun S => by unfold D.pd; rfl, rfl, rfl, rfl⟩
  | .bl b, _ => ⟨.bool b, fun S => by unfold D.pd; rfl, rfl, rfl, by cases b <;> rfl⟩
  | .int i, _ => ⟨.int i, fun S => by unfold D.pd; rfl, rfl, rfl, by unfold PyData.eqv; simp⟩
  | .tup l, h => by
    obtain ⟨ps, e, c, m, q⟩ := nm_pdL l (by unfold Nm at h; exact h)
    exact ⟨.tuple ps, fun S => by unfold D.pd; rw [e S]; rfl, by unfold PyData.canLay0; exact c, by unfold PyData.depth dd; rw [m], by unfold PyData.eqv; exact q⟩
  | .lst l, h => by
    obtain ⟨ps, e, c, m, q⟩ := nm_pdL l (by unfold Nm at h; exact h)
    exact ⟨.list ps, fun S => by unfold D.pd; rw [e S]; rfl, by unfold PyData.canLay0; exact c, by unfold PyData.depth dd; rw [m], by unfold PyData.eqv; exact q⟩
  | .str _, h => by unfold Nm at h; exact h.elim
  | .scr _, h => by unfold Nm at h; exact h.elim
  | .cel _, h => by unfold Nm at h; exact h.elim
  | .fn _, h => by unfold Nm at h; exact h.elim
  | .lam _, h => by unfold Nm at h; exact h.elim
theorem nm_pdL : ∀ l : List D, NmL l → ∃ p, (∀ S, D.pdL S l = some p) ∧ PyData.canLayAll0 p = true ∧ PyData.depthAll p = ddL l ∧ PyData.eqvAll p p = true
  | [], _ => ⟨[], fun S => by unfold D.pdL; rfl, rfl, rfl, rfl⟩
  | d :: l, h => by
    have h1 : Nm d ∧ NmL l := by unfold NmL at h; exact h
    obtain ⟨p, e, c, m, q⟩ := nm_pd d h1.1
    obtain ⟨ps, es, cs, ms, qs⟩ := nm_pdL l h1.2
    refine ⟨p :: ps, fun S => by unfold D.pdL; rw [e S, es S], ?_, by unfold PyData.depthAll ddL; rw [m, ms], ?_⟩
    · unfold PyData.canLayAll0; rw [c, cs]; rfl
    · unfold PyData.eqvAll; rw [q, qs]; rfl
end
theorem shp_of {p : PyData} (c : p.canLay0 = true) (m : p.depth ≤ 64) : SeqAt.shaped p = true := by
  unfold SeqAt.shaped
  rw [c, decide_eq_true m]
  rfl
theorem c_same_ne {d : D} {S : Sto} (h : Nm d) (hd : dd d ≤ 64) : cmpop S .NotEq d d = some false := by
  obtain ⟨p, e, c, m, q⟩ := nm_pd d h
  have s := shp_of c (by rw [m]; exact hd)
  have g : (match d.pd [], d.pd [] with
    | some a, some b => if SeqAt.shaped a = true ∧ SeqAt.shaped b = true then some (!PyData.eqv a b) else none
    | _, _ => none) = some false := by
    rw [e []]
    simp only
    rw [if_pos ⟨s, s⟩, q]
    rfl
  cases d <;> first | exact g | (unfold Nm at h; exact h.elim)
theorem c_same_eq {d : D} {S : Sto} (h : Nm d) (hd : dd d ≤ 64) : cmpop S .Eq d d = some true := by
  obtain ⟨p, e, c, m, q⟩ := nm_pd d h
  have s := shp_of c (by rw [m]; exact hd)
  have g : (match d.pd [], d.pd [] with
    | some a, some b => if SeqAt.shaped a = true ∧ SeqAt.shaped b = true then some (PyData.eqv a b) else none
    | _, _ => none) = some true := by
    rw [e []]
    simp only
    rw [if_pos ⟨s, s⟩, q]
  cases d <;> first | exact g | (unfold Nm at h; exact h.elim)
theorem pdL_len {S : Sto} : ∀ {l : List D} {p : List PyData}, D.pdL S l = some p → p.isEmpty = l.isEmpty
  | [], p, h => by
    unfold D.pdL at h
    cases h
    rfl
  | d :: l, p, h => by
    unfold D.pdL at h
    split at h
    · cases h
      rfl
    · cases h
theorem c_ne_t0 {l : List D} {S : Sto} (h : NmL l) (hd : ddL l ≤ 60) : cmpop S .NotEq (.tup l) (.tup []) = some (!l.isEmpty) := by
  obtain ⟨p, e, c, m, q⟩ := nm_pdL l h
  have pe := pdL_len (e [])
  show (match (D.tup l).pd [], (D.tup []).pd [] with
    | some a, some b => if SeqAt.shaped a = true ∧ SeqAt.shaped b = true then some (!PyData.eqv a b) else none
    | _, _ => none) = _
  have e1 : (D.tup l).pd [] = some (.tuple p) := by unfold D.pd; rw [e []]; rfl
  have e2 : (D.tup []).pd [] = some (.tuple []) := by unfold D.pd D.pdL; rfl
  rw [e1, e2]
  simp only
  rw [if_pos ⟨shp_of (by unfold PyData.canLay0; exact c) (by unfold PyData.depth; omega), shp_of rfl (by decide)⟩]
  cases p with
  | nil => rw [← pe]; rfl
  | cons a b => rw [← pe]; rfl
theorem c_ne_l0 {l : List D} {S : Sto} (h : NmL l) (hd : ddL l ≤ 60) : cmpop S .NotEq (.lst l) (.lst []) = some (!l.isEmpty) := by
  obtain ⟨p, e, c, m, q⟩ := nm_pdL l h
  have pe := pdL_len (e [])
  show (match (D.lst l).pd [], (D.lst []).pd [] with
    | some a, some b => if SeqAt.shaped a = true ∧ SeqAt.shaped b = true then some (!PyData.eqv a b) else none
    | _, _ => none) = _
  have e1 : (D.lst l).pd [] = some (.list p) := by unfold D.pd; rw [e []]; rfl
  have e2 : (D.lst []).pd [] = some (.list []) := by unfold D.pd D.pdL; rfl
  rw [e1, e2]
  simp only
  rw [if_pos ⟨shp_of (by unfold PyData.canLay0; exact c) (by unfold PyData.depth; omega), shp_of rfl (by decide)⟩]
  cases p with
  | nil => rw [← pe]; rfl
  | cons a b => rw [← pe]; rfl
theorem nmL_of : ∀ {l : List D}, (∀ d ∈ l, Nm d) → NmL l
  | [], _ => by unfold NmL; trivial
  | d :: l, h => by
    unfold NmL
    exact ⟨h d List.mem_cons_self, nmL_of fun x hx => h x (List.mem_cons_of_mem _ hx)⟩
theorem ddL_of {k : Nat} : ∀ {l : List D}, (∀ d ∈ l, dd d ≤ k) → ddL l ≤ k
  | [], _ => by unfold ddL; omega
  | d :: l, h => by
    unfold ddL
    exact Nat.max_le.mpr ⟨h d List.mem_cons_self, ddL_of fun x hx => h x (List.mem_cons_of_mem _ hx)⟩
theorem nm_q {x : Rat} : Nm (qD x) := by
  unfold qD Nm NmL NmL NmL Nm
  exact ⟨trivial, trivial, trivial⟩
theorem nm_rD {n : Nat} {f : Nat → Rat} : Nm (rD n f) := by
  unfold Nm
  exact nmL_of fun d hd => by
    obtain ⟨j, _, rfl⟩ := List.mem_map.mp hd
    exact nm_q
theorem dd_rD {n : Nat} {f : Nat → Rat} : dd (rD n f) ≤ 2 := by
  unfold dd
  have : ddL ((List.range n).map fun j => qD (f j)) ≤ 1 := ddL_of fun d hd => by
    obtain ⟨j, _, rfl⟩ := List.mem_map.mp hd
    rw [dd_q]
    exact Nat.le_refl _
  omega
theorem nmL_tD {m n : Nat} {f : Nat → Nat → Rat} : NmL ((List.range m).map fun i => rD n (f i)) := nmL_of fun d hd => by
  obtain ⟨i, _, rfl⟩ := List.mem_map.mp hd
  exact nm_rD
theorem ddL_tD {m n : Nat} {f : Nat → Nat → Rat} : ddL ((List.range m).map fun i => rD n (f i)) ≤ 2 := ddL_of fun d hd => by
  obtain ⟨i, _, rfl⟩ := List.mem_map.mp hd
  exact dd_rD
theorem tD_ne {m n : Nat} {f : Nat → Nat → Rat} {S : Sto} : cmpop S .NotEq (tD m n f) (tD m n f) = some false := c_same_ne (by unfold Nm; exact nmL_tD) (by unfold dd; have := ddL_tD (m := m) (n := n) (f := f); omega)
theorem tD_ne0 {m n : Nat} {f : Nat → Nat → Rat} {S : Sto} : cmpop S .NotEq (tD m n f) (.tup []) = some (decide (0 < m)) := by
  rw [c_ne_t0 nmL_tD (Nat.le_trans ddL_tD (by decide))]
  cases m with
  | zero => rfl
  | succ m => rw [List.range_succ_eq_map]; simp
/-! ### repr of tables -/
theorem dkL_of {k : Nat} : ∀ {l : List D}, (∀ d ∈ l, Dk k d) → DkL k l
  | [], _ => by unfold DkL; trivial
  | d :: l, h => by
    unfold DkL
    exact ⟨h d List.mem_cons_self, dkL_of fun x hx => h x (List.mem_cons_of_mem _ hx)⟩
theorem dnL_of {k : Nat} : ∀ {l : List D}, (∀ d ∈ l, dn d ≤ k) → dnL l ≤ k * l.length
  | [], _ => by unfold dnL; omega
  | d :: l, h => by
    unfold dnL
    have h1 := h d List.mem_cons_self
    have h2 := dnL_of fun x hx => h x (List.mem_cons_of_mem _ hx)
    rw [List.length_cons, Nat.mul_succ]
    omega
theorem rep_tD {k m n : Nat} {f : Nat → Nat → Rat} {S : Sto} (h : ∀ i < m, ∀ j < n, Rb k (f i j)) (hk : 8 ≤ k) (hk2 : k ≤ 1919) (hm : m ≤ 12) (hn : n ≤ 12) (hs : (10 * k + 10) * ((3 * n + 1) * m + 1) ≤ 16777216) : biD S .repr [tD m n f] = some (.val (.str (rT (tD m n f)))) := by
  refine bi_repr (k := k) ?_ hk hk2 ?_ ?_
  · unfold Dk
    exact dkL_of fun d hd => by
      obtain ⟨i, hi, rfl⟩ := List.mem_map.mp hd
      unfold Dk
      exact dkL_of fun d hd => by
        obtain ⟨j, hj, rfl⟩ := List.mem_map.mp hd
        exact dk_q (h i (List.mem_range.mp hi) j (List.mem_range.mp hj))
  · unfold dd
    have := ddL_tD (m := m) (n := n) (f := f)
    omega
  · have h1 : dn (tD m n f) ≤ (3 * n + 1) * m + 1 := by
      unfold dn
      have := dnL_of (k := 3 * n + 1) (l := (List.range m).map fun i => rD n (f i)) (fun d hd => by
        obtain ⟨i, hi, rfl⟩ := List.mem_map.mp hd
        unfold dn
        have := dnL_of (k := 3) (l := (List.range n).map fun j => qD (f i j)) (fun d hd => by
          obtain ⟨j, hj, rfl⟩ := List.mem_map.mp hd
          rw [dn_q]
          exact Nat.le_refl _)
        rw [len_r] at this
        omega)
      rw [len_r] at this
      omega
    exact Nat.le_trans (Nat.mul_le_mul_left (10 * k + 10) h1) hs
/-! ### tables taken in -/
def rwD (b : Bool) (l : List D) : D := if b = true then .lst l else .tup l
def HdT (m n : Nat) (f : Nat → Nat → Rat) (t : D) : Prop := ∃ (a : Nat → Nat → D) (bs : Nat → Bool) (b : Bool), (∀ i < m, ∀ j < n, Hd (f i j) (a i j)) ∧ t = rwD b ((List.range m).map fun i => rwD (bs i) ((List.range n).map (a i)))
def cv : D → D
  | .lst l => .tup l
  | d => d
structure HasF (P : Prg) : Prop where
  r : HasR P
  ratio : P.defs.lookup ("is_ratio" : Str) = some Lb.df_is_ratio
  told : P.defs.lookup ("told" : Str) = some Lb.df_told
  tups : P.defs.lookup ("in_tuples" : Str) = some Lb.df_in_tuples
structure HasT (P : Prg) : Prop where
  f : HasF P
  row : P.defs.lookup ("is_loose_row" : Str) = some Lb.df_is_loose_row
  none : P.defs.lookup ("table_or_none" : Str) = some Lb.df_table_or_none
  fr : P.defs.lookup ("table_from" : Str) = some Lb.df_table_from
theorem in_int {P : Prg} {k : Nat} {i : Int} {L : List (Option D)} {S : Sto} (H : HasF P) : callN P (k + 1) "in_tuples" [.int i] L S = some (.ok (.val (.int i)), S) := by
  refine call_rt H.tups rfl ?_
  simp only [Lb.df_in_tuples, H.r.af, ↓Z, Vl, VC, ↓ZL, ↓ZC, ↓reduceIte, Nat.reduceAdd, Nat.reduceSub, q_i0, q_i1, zipR, z_kok, z_ret, eq_self, decide_true, decide_false, Bool.not_true, Bool.not_false, len_r, List.length_range, List.length_map]
/-- items taken in: the tuple of what each comes to -/
theorem in_many {P : Prg} {k n : Nat} {a e : Nat → D} {b : Bool} {L : List (Option D)} {S : Sto} (H : HasF P) (hn : n ≤ 1000) (h : ∀ j < n, callN P k "in_tuples" [a j] L S = some (.ok (.val (e j)), S)) : callN P (k + 1) "in_tuples" [rwD b ((List.range n).map a)] L S = some (.ok (.val (.tup ((List.range n).map e))), S) := by
  refine call_rt H.tups rfl ?_
  cases b with
  | false =>
    rw [show rwD false ((List.range n).map a) = .tup ((List.range n).map a) from rfl]
    simp only [Lb.df_in_tuples, H.r.af, ↓Z, Vl, VC, ↓ZL, ↓ZC, ↓reduceIte, Nat.reduceAdd, Nat.reduceSub, q_i0, q_i1, zipR, z_kok, z_ret, eq_self, decide_true, decide_false, Bool.not_true, Bool.not_false, len_r, List.length_range, List.length_map]
    rw [z_runD (lcB_enc a e ?_ ?_ ?_ ?_ ?_)]
    · simp only [↓Z, Vl, VC, ↓ZL, ↓ZC, ↓reduceIte, Nat.reduceAdd, Nat.reduceSub, q_i0, q_i1, zipR, z_kok, z_ret, eq_self, decide_true, decide_false, Bool.not_true, Bool.not_false, len_r, List.length_range, List.length_map]
    · exact range_len_le hn
    · rfl
    · rfl
    · rfl
    · intro j hj
      simp only [↓Z, Vl, VC, ↓ZL, ↓ZC, ↓reduceIte, Nat.reduceAdd, Nat.reduceSub, q_i0, q_i1, zipR, z_kok, z_ret, eq_self, decide_true, decide_false, Bool.not_true, Bool.not_false, len_r, List.length_range, List.length_map, ↓z_callSD (h j (List.mem_range.mp hj))]
  | true =>
    rw [show rwD true ((List.range n).map a) = .lst ((List.range n).map a) from rfl]
    simp only [Lb.df_in_tuples, H.r.af, ↓Z, Vl, VC, ↓ZL, ↓ZC, ↓reduceIte, Nat.reduceAdd, Nat.reduceSub, q_i0, q_i1, zipR, z_kok, z_ret, eq_self, decide_true, decide_false, Bool.not_true, Bool.not_false, len_r, List.length_range, List.length_map]
    rw [z_runD (lcB_enc a e ?_ ?_ ?_ ?_ ?_)]
    · simp only [↓Z, Vl, VC, ↓ZL, ↓ZC, ↓reduceIte, Nat.reduceAdd, Nat.reduceSub, q_i0, q_i1, zipR, z_kok, z_ret, eq_self, decide_true, decide_false, Bool.not_true, Bool.not_false, len_r, List.length_range, List.length_map]
    · exact range_len_le hn
    · rfl
    · rfl
    · rfl
    · intro j hj
      simp only [↓Z, Vl, VC, ↓ZL, ↓ZC, ↓reduceIte, Nat.reduceAdd, Nat.reduceSub, q_i0, q_i1, zipR, z_kok, z_ret, eq_self, decide_true, decide_false, Bool.not_true, Bool.not_false, len_r, List.length_range, List.length_map, ↓z_callSD (h j (List.mem_range.mp hj))]
theorem in_two {P : Prg} {k : Nat} {x y : Int} {b : Bool} {L : List (Option D)} {S : Sto} (H : HasF P) : callN P (k + 2) "in_tuples" [rwD b [.int x, .int y]] L S = some (.ok (.val (.tup [.int x, .int y])), S) :=
  in_many (n := 2) (a := fun j => .int (if j = 0 then x else y)) (e := fun j => .int (if j = 0 then x else y)) H (by decide) fun j hj => in_int H
theorem in_hd {P : Prg} {k : Nat} {x : Rat} {d : D} {L : List (Option D)} {S : Sto} (H : HasF P) (h : Hd x d) : callN P (k + 2) "in_tuples" [d] L S = some (.ok (.val (cv d)), S) := by
  cases h with
  | int _ => exact in_int H
  | tup m _ _ => exact in_two (b := false) H
  | lst m _ _ => exact in_two (b := true) H
theorem hd_cv {x : Rat} {d : D} (h : Hd x d) : Hd x (cv d) ∧ isLst (cv d) = false := by
  cases h with
  | int e => exact ⟨.int e, rfl⟩
  | tup m a b => exact ⟨.tup m a b, rfl⟩
  | lst m a b => exact ⟨.tup m a b, rfl⟩
theorem all_true {S : Sto} : ∀ {n : Nat}, biD S .all [.lst ((List.range n).map fun _ => .bl true)] = some (.val (.bl true)) := by
  intro n
  have e : allBl ((List.range n).map fun _ => .bl true) = some (List.replicate n true) := by
    induction n with
    | zero => rfl
    | succ n ih =>
      rw [List.range_succ_eq_map, List.map_cons, List.map_map, List.replicate_succ]
      show (allBl ((List.range n).map fun _ => .bl true)).map (true :: ·) = _
      rw [ih]
      rfl
  show (allBl _).map _ = _
  rw [e]
  simp [List.all_replicate]
theorem loose_ok {P : Prg} {k n : Nat} {f : Nat → Rat} {a : Nat → D} {L : List (Option D)} {S : Sto} (H : HasT P) (hn : n ≤ 1000) (h : ∀ j < n, Hd (f j) (a j) ∧ isLst (a j) = false) : callN P (k + 4) "is_loose_row" [.tup ((List.range n).map a)] L S = some (.ok (.val (.bl true)), S) := by
  refine call_rt H.row rfl ?_
  simp only [Lb.df_is_loose_row, H.f.r.af, ↓Z, Vl, VC, ↓ZL, ↓ZC, ↓reduceIte, Nat.reduceAdd, Nat.reduceSub, q_i0, q_i1, zipR, z_kok, z_ret, eq_self, decide_true, decide_false, Bool.not_true, Bool.not_false, len_r, List.length_range, List.length_map]
  rw [z_runD (lcB_enc a (fun _ => .bl true) ?_ ?_ ?_ ?_ ?_)]
  · simp only [↓Z, Vl, VC, ↓ZL, ↓ZC, ↓reduceIte, Nat.reduceAdd, Nat.reduceSub, q_i0, q_i1, zipR, z_kok, z_ret, eq_self, decide_true, decide_false, Bool.not_true, Bool.not_false, len_r, List.length_range, List.length_map, all_true]
  · exact range_len_le hn
  · rfl
  · rfl
  · rfl
  · intro j hj
    have h := h j (List.mem_range.mp hj)
    have e1 := ratio_ok (P := P) (k := k) (L := L) (S := S) H.f.r H.f.ratio h.1
    rw [h.2] at e1
    simp only [↓Z, Vl, VC, ↓ZL, ↓ZC, ↓reduceIte, Nat.reduceAdd, Nat.reduceSub, q_i0, q_i1, zipR, z_kok, z_ret, eq_self, decide_true, decide_false, Bool.not_true, Bool.not_false, len_r, List.length_range, List.length_map, ↓z_callSD e1]
theorem none_ok {P : Prg} {k m n : Nat} {f : Nat → Nat → Rat} {t : D} {L : List (Option D)} {S : Sto} (H : HasT P) (hm : m ≤ 12) (hn : n ≤ 12) (h : HdT m n f t) (hb : ∀ i < m, ∀ j < n, Rb 3900 (f i j)) : callN P (k + 5) "table_or_none" [t] L S = some (.ok (.val (tD m n f)), S) := by
  obtain ⟨a, bs, b, ha, rfl⟩ := h
  have it : callN P (k + 4) "in_tuples" [rwD b ((List.range m).map fun i => rwD (bs i) ((List.range n).map (a i)))] L S = some (.ok (.val (.tup ((List.range m).map fun i => .tup ((List.range n).map fun j => cv (a i j))))), S) :=
    in_many H.f (by omega) fun i hi => in_many H.f (by omega) fun j hj => in_hd (k := k) H.f (ha i hi j hj)
  refine call_rt H.none rfl ?_
  have hm2 : ¬ (12 : Int) < m := by omega
  have hn2 : ¬ (12 : Int) < n := by omega
  simp only [Lb.df_table_or_none, H.f.r.af, ↓Z, Vl, VC, ↓ZL, ↓ZC, ↓reduceIte, Nat.reduceAdd, Nat.reduceSub, q_i0, q_i1, zipR, z_kok, z_ret, eq_self, decide_true, decide_false, Bool.not_true, Bool.not_false, len_r, List.length_range, List.length_map, ↓z_callS it, hm2]
  rw [z_runD (lcB_enc (fun i => .tup ((List.range n).map fun j => cv (a i j))) (fun _ => .bl true) ?_ ?_ ?_ ?_ ?_)]
  rotate_left
  · exact range_len_le (by omega)
  · rfl
  · rfl
  · rfl
  · intro i hi
    have e1 := loose_ok (P := P) (k := k) (L := L) (S := S) (f := f i) (a := fun j => cv (a i j)) H (show n ≤ 1000 by omega) (fun j hj => hd_cv (ha i (List.mem_range.mp hi) j hj))
    simp only [↓Z, Vl, VC, ↓ZL, ↓ZC, ↓reduceIte, Nat.reduceAdd, Nat.reduceSub, q_i0, q_i1, zipR, z_kok, z_ret, eq_self, decide_true, decide_false, Bool.not_true, Bool.not_false, len_r, List.length_range, List.length_map, ↓z_callSD e1]
  cases m with
  | zero =>
    simp only [↓Z, Vl, VC, ↓ZL, ↓ZC, ↓reduceIte, Nat.reduceAdd, Nat.reduceSub, q_i0, q_i1, zipR, z_kok, z_ret, eq_self, decide_true, decide_false, Bool.not_true, Bool.not_false, len_r, List.length_range, List.length_map, all_true, Int.natCast_zero, Int.lt_irrefl]
    rw [z_runD (lcB_enc (xs := List.range 0) (fun i => .tup ((List.range n).map fun j => cv (a i j))) (fun i => rD n (f i)) ?_ ?_ ?_ ?_ ?_)]
    · simp only [↓Z, Vl, VC, ↓ZL, ↓ZC, ↓reduceIte, Nat.reduceAdd, Nat.reduceSub, q_i0, q_i1, zipR, z_kok, z_ret, eq_self, decide_true, decide_false, Bool.not_true, Bool.not_false, len_r, List.length_range, List.length_map]
    · exact range_len_le (by omega)
    · rfl
    · rfl
    · rfl
    · intro i hi
      exact absurd hi (by simp)
  | succ m =>
    have h0 : (0 : Int) < ((m + 1 : Nat) : Int) := by omega
    simp only [↓Z, Vl, VC, ↓ZL, ↓ZC, ↓reduceIte, Nat.reduceAdd, Nat.reduceSub, q_i0, q_i1, zipR, z_kok, z_ret, eq_self, decide_true, decide_false, Bool.not_true, Bool.not_false, len_r, List.length_range, List.length_map, all_true, h0, idx_r0 (Nat.succ_pos m), hn2]
    rw [z_runD (lcB_enc (xs := List.range (m + 1)) (fun i => .tup ((List.range n).map fun j => cv (a i j))) (fun _ => .bl true) ?_ ?_ ?_ ?_ ?_)]
    rotate_left
    · exact range_len_le (by omega)
    · rfl
    · rfl
    · rfl
    · intro i hi
      simp only [↓Z, Vl, VC, ↓ZL, ↓ZC, ↓reduceIte, Nat.reduceAdd, Nat.reduceSub, q_i0, q_i1, zipR, z_kok, z_ret, eq_self, decide_true, decide_false, Bool.not_true, Bool.not_false, len_r, List.length_range, List.length_map, idx_r0 (Nat.succ_pos m)]
    simp only [↓Z, Vl, VC, ↓ZL, ↓ZC, ↓reduceIte, Nat.reduceAdd, Nat.reduceSub, q_i0, q_i1, zipR, z_kok, z_ret, eq_self, decide_true, decide_false, Bool.not_true, Bool.not_false, len_r, List.length_range, List.length_map, all_true]
    rw [z_runD (lcB_enc (xs := List.range (m + 1)) (fun i => .tup ((List.range n).map fun j => cv (a i j))) (fun i => rD n (f i)) ?_ ?_ ?_ ?_ ?_)]
    · simp only [↓Z, Vl, VC, ↓ZL, ↓ZC, ↓reduceIte, Nat.reduceAdd, Nat.reduceSub, q_i0, q_i1, zipR, z_kok, z_ret, eq_self, decide_true, decide_false, Bool.not_true, Bool.not_false, len_r, List.length_range, List.length_map]
    · exact range_len_le (by omega)
    · rfl
    · rfl
    · rfl
    · intro i hi
      simp only [↓Z, Vl, VC, ↓ZL, ↓ZC, ↓reduceIte, Nat.reduceAdd, Nat.reduceSub, q_i0, q_i1, zipR, z_kok, z_ret, eq_self, decide_true, decide_false, Bool.not_true, Bool.not_false, len_r, List.length_range, List.length_map]
      rw [z_runD (lcB_enc (fun j => cv (a i j)) (fun j => qD (f i j)) ?_ ?_ ?_ ?_ ?_)]
      · simp only [↓Z, Vl, VC, ↓ZL, ↓ZC, ↓reduceIte, Nat.reduceAdd, Nat.reduceSub, q_i0, q_i1, zipR, z_kok, z_ret, eq_self, decide_true, decide_false, Bool.not_true, Bool.not_false, len_r, List.length_range, List.length_map]
      · exact range_len_le (by omega)
      · rfl
      · rfl
      · rfl
      · intro j hj
        have e1 := told_ok (P := P) (k := k + 1) (L := L) (S := S) H.f.r H.f.told (hd_cv (ha i (List.mem_range.mp hi) j (List.mem_range.mp hj))).1 (hb i (List.mem_range.mp hi) j (List.mem_range.mp hj))
        simp only [↓Z, Vl, VC, ↓ZL, ↓ZC, ↓reduceIte, Nat.reduceAdd, Nat.reduceSub, q_i0, q_i1, zipR, z_kok, z_ret, eq_self, decide_true, decide_false, Bool.not_true, Bool.not_false, len_r, List.length_range, List.length_map, ↓z_callSD e1]
theorem from_ok {P : Prg} {k m n : Nat} {f : Nat → Nat → Rat} {t : D} {L : List (Option D)} {S : Sto} (H : HasT P) (hm : m ≤ 12) (hn : n ≤ 12) (h : HdT m n f t) (hb : ∀ i < m, ∀ j < n, Rb 3900 (f i j)) : callN P (k + 6) "table_from" [t] L S = some (.ok (.val (tD m n f)), S) := by
  refine call_rt H.fr rfl ?_
  simp only [Lb.df_table_from, H.f.r.af, ↓Z, Vl, VC, ↓ZL, ↓ZC, ↓reduceIte, Nat.reduceAdd, Nat.reduceSub, q_i0, q_i1, zipR, z_kok, z_ret, eq_self, decide_true, decide_false, Bool.not_true, Bool.not_false, len_r, List.length_range, List.length_map, ↓z_callS (none_ok (P := P) (k := k) (L := L) (S := S) H hm hn h hb)]
/-- a told table is one that may be handed in -/
theorem tD_hd {m n : Nat} {f : Nat → Nat → Rat} : HdT m n f (tD m n f) := ⟨fun i j => qD (f i j), fun _ => false, false, fun i hi j hj => by
  have := Hd.tup (x := f i j) 1 (by decide) (by decide)
  rw [Int.mul_one, Int.mul_one] at this
  exact this, rfl⟩
end Rf
/-! Rk: what is made of tables; tables drawn -/
namespace Rf
open PySem PySem.Spec L2
theorem two_ok {P : Prg} {k m n m2 n2 : Nat} {u v : Nat → Nat → Rat} {a b : D} {L : List (Option D)} {S : Sto} (H : HasT P) (f : P.defs.lookup ("two_from" : Str) = some Lb.df_two_from) (hm : m ≤ 12) (hn : n ≤ 12) (hm2 : m2 ≤ 12) (hn2 : n2 ≤ 12) (ha : HdT m n u a) (hb : HdT m2 n2 v b) (hu : ∀ i < m, ∀ j < n, Rb 3900 (u i j)) (hv : ∀ i < m2, ∀ j < n2, Rb 3900 (v i j)) :
    callN P (k + 7) "two_from" [a, b] L S = some (.ok (.val (.tup [tD m n u, tD m2 n2 v])), S) := by
  refine call_rt f rfl ?_
  simp only [Lb.df_two_from, H.f.r.af, ↓Z, Vl, VC, ↓ZL, ↓ZC, ↓reduceIte, Nat.reduceAdd, Nat.reduceSub, q_i0, q_i1, zipR, z_kok, z_ret, eq_self, decide_true, decide_false, Bool.not_true, Bool.not_false, len_r, List.length_range, List.length_map, ↓z_callS (from_ok (P := P) (k := k) H hm hn ha hu), ↓z_callSD (from_ok (P := P) (k := k) H hm2 hn2 hb hv)]
theorem table_sum_ok {P : Prg} {k m n : Nat} {u v : Nat → Nat → Rat} {a b : D} {L : List (Option D)} {S : Sto} (H : HasT P) (HS : HasS P) (f2 : P.defs.lookup ("two_from" : Str) = some Lb.df_two_from) (fw : P.defs.lookup ("width_of" : Str) = some Lb.df_width_of) (fl : P.defs.lookup ("need_like" : Str) = some Lb.df_need_like) (fr : P.defs.lookup ("row_plus" : Str) = some Lb.df_row_plus) (fs : P.defs.lookup ("sum_by" : Str) = some Lb.df_sum_by) (f : P.defs.lookup ("table_sum" : Str) = some Lb.df_table_sum)
    (hm : m ≤ 12) (hn : n ≤ 12) (ha : HdT m n u a) (hb : HdT m n v b) (hu : ∀ i < m, ∀ j < n, Rb 3900 (u i j)) (hv : ∀ i < m, ∀ j < n, Rb 3800 (v i j)) :
    callN P (k + 8) "table_sum" [a, b] L S = some (.ok (.val (tD m n fun i j => u i j + 1 * v i j)), S) := by
  refine call_rt f rfl ?_
  have e1 := two_ok (P := P) (k := k) (L := L) (S := S) H f2 hm hn hm hn ha hb hu (fun i hi j hj => (hv i hi j hj).mono (by decide))
  have e2 := like_ok (P := P) (k := k + 5) (m := m) (n := n) (u := u) (v := v) (L := L) (S := S) HS.r.af fw fl
  have e3 := sum_by_ok (P := P) (k := k + 3) (m := m) (n := n) (u := u) (v := v) (L := L) (S := S) HS fr fs hu hv (by omega) (by omega)
  simp only [Lb.df_table_sum, HS.r.af, ↓Z, Vl, VC, ↓ZL, ↓ZC, ↓reduceIte, Nat.reduceAdd, Nat.reduceSub, q_i0, q_i1, zipR, z_kok, z_ret, eq_self, decide_true, decide_false, Bool.not_true, Bool.not_false, len_r, List.length_range, List.length_map, z_putnm, z_Ts_nil, z_Ts_cons, ↓z_callSD e1, ↓z_callS e2, ↓z_callS e3]
theorem table_less_ok {P : Prg} {k m n : Nat} {u v : Nat → Nat → Rat} {a b : D} {L : List (Option D)} {S : Sto} (H : HasT P) (HS : HasS P) (f2 : P.defs.lookup ("two_from" : Str) = some Lb.df_two_from) (fw : P.defs.lookup ("width_of" : Str) = some Lb.df_width_of) (fl : P.defs.lookup ("need_like" : Str) = some Lb.df_need_like) (fr : P.defs.lookup ("row_plus" : Str) = some Lb.df_row_plus) (fs : P.defs.lookup ("less_by" : Str) = some Lb.df_less_by) (f : P.defs.lookup ("table_less" : Str) = some Lb.df_table_less)
    (hm : m ≤ 12) (hn : n ≤ 12) (ha : HdT m n u a) (hb : HdT m n v b) (hu : ∀ i < m, ∀ j < n, Rb 3900 (u i j)) (hv : ∀ i < m, ∀ j < n, Rb 3800 (v i j)) :
    callN P (k + 8) "table_less" [a, b] L S = some (.ok (.val (tD m n fun i j => u i j + -1 * v i j)), S) := by
  refine call_rt f rfl ?_
  have e1 := two_ok (P := P) (k := k) (L := L) (S := S) H f2 hm hn hm hn ha hb hu (fun i hi j hj => (hv i hi j hj).mono (by decide))
  have e2 := like_ok (P := P) (k := k + 5) (m := m) (n := n) (u := u) (v := v) (L := L) (S := S) HS.r.af fw fl
  have e3 := less_by_ok (P := P) (k := k + 3) (m := m) (n := n) (u := u) (v := v) (L := L) (S := S) HS fr fs hu hv (by omega) (by omega)
  simp only [Lb.df_table_less, HS.r.af, ↓Z, Vl, VC, ↓ZL, ↓ZC, ↓reduceIte, Nat.reduceAdd, Nat.reduceSub, q_i0, q_i1, zipR, z_kok, z_ret, eq_self, decide_true, decide_false, Bool.not_true, Bool.not_false, len_r, List.length_range, List.length_map, z_putnm, z_Ts_nil, z_Ts_cons, ↓z_callSD e1, ↓z_callS e2, ↓z_callS e3]
theorem ratio_from_ok {P : Prg} {k : Nat} {x : Rat} {a w : D} {L : List (Option D)} {S : Sto} (H : HasF P) (f : P.defs.lookup ("ratio_from" : Str) = some Lb.df_ratio_from) (h : Hd x a) (hx : Rb 3900 x) : callN P (k + 4) "ratio_from" [w, a] L S = some (.ok (.val (qD x)), S) := by
  refine call_rt f rfl ?_
  have e1 := in_hd (P := P) (k := k + 1) (L := L) (S := S) H h
  have e2 := ratio_ok (P := P) (k := k) (L := L) (S := S) H.r H.ratio (hd_cv h).1
  rw [(hd_cv h).2] at e2
  have e3 := told_ok (P := P) (k := k) (L := L) (S := S) H.r H.told (hd_cv h).1 hx
  simp only [Lb.df_ratio_from, H.r.af, ↓Z, Vl, VC, ↓ZL, ↓ZC, ↓reduceIte, Nat.reduceAdd, Nat.reduceSub, q_i0, q_i1, zipR, z_kok, z_ret, eq_self, decide_true, decide_false, Bool.not_true, Bool.not_false, len_r, List.length_range, List.length_map, ↓z_callS e1, ↓z_callSD e2, ↓z_callS e3]
theorem table_times_ok {P : Prg} {k m n : Nat} {u : Nat → Nat → Rat} {c : Rat} {a b : D} {L : List (Option D)} {S : Sto} (H : HasT P) (HS : HasS P) (fr : P.defs.lookup ("ratio_from" : Str) = some Lb.df_ratio_from) (ft : P.defs.lookup ("times_by" : Str) = some Lb.df_times_by) (f : P.defs.lookup ("table_times" : Str) = some Lb.df_table_times)
    (hm : m ≤ 12) (hn : n ≤ 12) (ha : HdT m n u a) (hb : Hd c b) (hu : ∀ i < m, ∀ j < n, Rb 3900 (u i j)) (hc : Rb 3900 c) :
    callN P (k + 7) "table_times" [a, b] L S = some (.ok (.val (tD m n fun i j => u i j * c)), S) := by
  refine call_rt f rfl ?_
  have e1 := from_ok (P := P) (k := k) (L := L) (S := S) H hm hn ha hu
  have e2 := ratio_from_ok (P := P) (k := k + 2) (w := .str "by") (L := L) (S := S) H.f fr hb hc
  have e3 := times_by_ok (P := P) (k := k + 3) (m := m) (n := n) (u := u) (c := c) (L := L) (S := S) HS ft hu hc (by omega) (by omega)
  simp only [Lb.df_table_times, HS.r.af, ↓Z, Vl, VC, ↓ZL, ↓ZC, ↓reduceIte, Nat.reduceAdd, Nat.reduceSub, q_i0, q_i1, zipR, z_kok, z_ret, eq_self, decide_true, decide_false, Bool.not_true, Bool.not_false, len_r, List.length_range, List.length_map, ↓z_callS e1, ↓z_callSD e2, ↓z_callS e3]
/-- what a product needs of its numbers -/
def PrOk (m n p : Nat) (u v : Nat → Nat → Rat) : Prop := (∀ i < m, ∀ t < n, Rb 3900 (u i t)) ∧ ∀ i < m, ∀ t < n, ∀ j < p, Rb 3900 (v t j) ∧ Rb 3900 (u i t * v t j) ∧ Rb 3900 (sumN t fun t => u i t * v t j)
structure HasP (P : Prg) : Prop where
  t : HasT P
  s : HasS P
  two : P.defs.lookup ("two_from" : Str) = some Lb.df_two_from
  width : P.defs.lookup ("width_of" : Str) = some Lb.df_width_of
  plus : P.defs.lookup ("row_plus" : Str) = some Lb.df_row_plus
  mixed : P.defs.lookup ("mixed_by" : Str) = some Lb.df_mixed_by
  by_ : P.defs.lookup ("product_by" : Str) = some Lb.df_product_by
theorem table_product_ok {P : Prg} {k m n p : Nat} {u v : Nat → Nat → Rat} {a b : D} {L : List (Option D)} {S : Sto} (H : HasP P) (f : P.defs.lookup ("table_product" : Str) = some Lb.df_table_product)
    (hm : m ≤ 12) (hn : n ≤ 12) (hp : p ≤ 12) (ha : HdT m n u a) (hb : HdT n p v b) (hv2 : ∀ i < n, ∀ j < p, Rb 3900 (v i j)) (h : PrOk m n p u v) :
    callN P (k + 8) "table_product" [a, b] L S = some (.ok (.val (tD m (wd n p) (mm n u v))), S) := by
  refine call_rt f rfl ?_
  have e1 := two_ok (P := P) (k := k) (L := L) (S := S) H.t H.two hm hn hn hp ha hb h.1 hv2
  have e2 := width_ok (P := P) (k := k + 6) (m := m) (n := n) (u := u) (L := L) (S := S) H.s.r.af H.width
  have e3 := product_by_ok (P := P) (k := k + 2) (m := m) (n := n) (p := p) (u := u) (v := v) (L := L) (S := S) H.s H.plus H.mixed H.width H.by_ h.1 h.2 (by omega) (by omega)
  cases m with
  | zero =>
    simp only [Lb.df_table_product, H.s.r.af, ↓Z, Vl, VC, ↓ZL, ↓ZC, ↓reduceIte, Nat.reduceAdd, Nat.reduceSub, q_i0, q_i1, zipR, z_kok, z_ret, eq_self, decide_true, decide_false, Bool.not_true, Bool.not_false, len_r, List.length_range, List.length_map, z_putnm, z_Ts_nil, z_Ts_cons, ↓z_callSD e1, ↓z_callS e3, Int.natCast_zero, Int.lt_irrefl]
  | succ m =>
    have h0 : (0 : Int) < ((m + 1 : Nat) : Int) := by omega
    rw [wd_pos (Nat.succ_pos m)] at e2
    simp only [Lb.df_table_product, H.s.r.af, ↓Z, Vl, VC, ↓ZL, ↓ZC, ↓reduceIte, Nat.reduceAdd, Nat.reduceSub, q_i0, q_i1, zipR, z_kok, z_ret, eq_self, decide_true, decide_false, Bool.not_true, Bool.not_false, len_r, List.length_range, List.length_map, z_putnm, z_Ts_nil, z_Ts_cons, ↓z_callSD e1, ↓z_callSD e2, ↓z_callS e3, h0]
theorem turned_over_ok {P : Prg} {k m n : Nat} {u : Nat → Nat → Rat} {a : D} {L : List (Option D)} {S : Sto} (H : HasP P) (ft : P.defs.lookup ("turned_by" : Str) = some Lb.df_turned_by) (f : P.defs.lookup ("turned_over" : Str) = some Lb.df_turned_over)
    (hm : m ≤ 12) (hn : n ≤ 12) (ha : HdT m n u a) (hu : ∀ i < m, ∀ j < n, Rb 3900 (u i j)) :
    callN P (k + 7) "turned_over" [a] L S = some (.ok (.val (tD (wd m n) m fun i j => u j i)), S) := by
  refine call_rt f rfl ?_
  have e1 := from_ok (P := P) (k := k) (L := L) (S := S) H.t hm hn ha hu
  have e3 := turned_by_ok (P := P) (k := k + 4) (m := m) (n := n) (u := u) (L := L) (S := S) H.s.r.af H.width ft (by omega) (by omega)
  simp only [Lb.df_turned_over, H.s.r.af, ↓Z, Vl, VC, ↓ZL, ↓ZC, ↓reduceIte, Nat.reduceAdd, Nat.reduceSub, q_i0, q_i1, zipR, z_kok, z_ret, eq_self, decide_true, decide_false, Bool.not_true, Bool.not_false, len_r, List.length_range, List.length_map, ↓z_callSD e1, ↓z_callS e3]
theorem square_from_ok {P : Prg} {k n : Nat} {u : Nat → Nat → Rat} {a : D} {L : List (Option D)} {S : Sto} (H : HasP P) (fq : P.defs.lookup ("is_square" : Str) = some Lb.df_is_square) (f : P.defs.lookup ("square_from" : Str) = some Lb.df_square_from)
    (hn : n ≤ 12) (ha : HdT n n u a) (hu : ∀ i < n, ∀ j < n, Rb 3900 (u i j)) :
    callN P (k + 7) "square_from" [a] L S = some (.ok (.val (tD n n u)), S) := by
  refine call_rt f rfl ?_
  have e1 := from_ok (P := P) (k := k) (L := L) (S := S) H.t hn hn ha hu
  have e3 := square_ok (P := P) (k := k + 4) (m := n) (u := u) (L := L) (S := S) H.s.r.af H.width fq
  simp only [Lb.df_square_from, H.s.r.af, ↓Z, Vl, VC, ↓ZL, ↓ZC, ↓reduceIte, Nat.reduceAdd, Nat.reduceSub, q_i0, q_i1, zipR, z_kok, z_ret, eq_self, decide_true, decide_false, Bool.not_true, Bool.not_false, len_r, List.length_range, List.length_map, ↓z_callS e1, ↓z_callSD e3]
theorem power_by_ok {P : Prg} {k n many : Nat} {u : Nat → Nat → Rat} {L : List (Option D)} {S : Sto} (H : HasP P) (fr : P.defs.lookup ("unit_row" : Str) = some Lb.df_unit_row) (fu : P.defs.lookup ("unit_by" : Str) = some Lb.df_unit_by) (f : P.defs.lookup ("power_by" : Str) = some Lb.df_power_by)
    (hn : n ≤ 12) (hm : many ≤ 12) (h : ∀ t < many, PrOk n n n (pw n u t) u) :
    callN P (k + 6) "power_by" [tD n n u, .int many] L S = some (.ok (.val (tD n n (pw n u many))), S) := by
  refine call_rt f rfl ?_
  obtain ⟨s', r, J⟩ := for_rng (t := [3]) (one := true) (body := sL (ev P (callN P (k + 5)) 59) [(.set (.nm 2) (.call "product_by" [(.var 2), (.var 0)]))]) (enc := fun i => .int (i : Nat)) (n := many)
    (s := ⟨[.val (tD n n u), .val (.int many), .val (tD n n fun i j => if j = i then 1 else 0), .un], S, L⟩)
    (fun i s => ∃ e4, (∀ l b, setE (e4 :: l) 0 b = some (b :: l)) ∧ s = ⟨[.val (tD n n u), .val (.int many), .val (tD n n (pw n u i)), e4], S, L⟩)
    ⟨.un, fun _ _ => rfl, rfl⟩ (fun i s hi ⟨e4, h4, e⟩ => by
      subst e
      have e1 := product_by_ok (P := P) (k := k) (m := n) (n := n) (p := n) (u := pw n u i) (v := u) (L := L) (S := S) H.s H.plus H.mixed H.width H.by_ (h i hi).1 (h i hi).2 (by omega) (by omega)
      rw [wd_self] at e1
      refine ⟨⟨[.val (tD n n u), .val (.int many), .val (tD n n (pw n u (i + 1))), .val (.int (i : Nat))], S, L⟩, ?_, ⟨_, fun _ _ => rfl, rfl⟩⟩
      rw [z_lap]
      simp only [↓Z, Vl, VC, ↓ZL, ↓ZC, ↓reduceIte, Nat.reduceAdd, Nat.reduceSub, q_i0, q_i1, zipR, z_kok, z_ret, eq_self, decide_true, decide_false, Bool.not_true, Bool.not_false, len_r, List.length_range, List.length_map, h4, ↓z_callS e1, pw])
  obtain ⟨e4, _, rfl⟩ := J
  have e2 := unit_by_ok (P := P) (k := k + 3) (n := n) (L := L) (S := S) H.s.r.af fr fu (by omega)
  simp only [Lb.df_power_by, H.s.r.af, ↓Z, Vl, VC, ↓ZL, ↓ZC, ↓reduceIte, Nat.reduceAdd, Nat.reduceSub, q_i0, q_i1, zipR, z_kok, z_ret, eq_self, decide_true, decide_false, Bool.not_true, Bool.not_false, len_r, List.length_range, List.length_map, ↓z_callS e2, s6N (show many ≤ 1000 by omega), Int.toNat_natCast, range_map, ↓z_lend0]
  rw [z_run r]
  simp only [↓Z, Vl, VC, ↓ZL, ↓ZC, ↓reduceIte, Nat.reduceAdd, Nat.reduceSub, q_i0, q_i1, zipR, z_kok, z_ret, eq_self, decide_true, decide_false, Bool.not_true, Bool.not_false, len_r, List.length_range, List.length_map]
theorem table_power_ok {P : Prg} {k n many : Nat} {u : Nat → Nat → Rat} {a : D} {L : List (Option D)} {S : Sto} (H : HasP P) (fq : P.defs.lookup ("is_square" : Str) = some Lb.df_is_square) (fs : P.defs.lookup ("square_from" : Str) = some Lb.df_square_from) (fb : P.defs.lookup ("need_between" : Str) = some Lb.df_need_between) (fr : P.defs.lookup ("unit_row" : Str) = some Lb.df_unit_row) (fu : P.defs.lookup ("unit_by" : Str) = some Lb.df_unit_by) (fp : P.defs.lookup ("power_by" : Str) = some Lb.df_power_by) (f : P.defs.lookup ("table_power" : Str) = some Lb.df_table_power)
    (hn : n ≤ 12) (hm : many ≤ 12) (ha : HdT n n u a) (hu : ∀ i < n, ∀ j < n, Rb 3900 (u i j)) (h : ∀ t < many, PrOk n n n (pw n u t) u) :
    callN P (k + 8) "table_power" [a, .int many] L S = some (.ok (.val (tD n n (pw n u many))), S) := by
  refine call_rt f rfl ?_
  have e1 := square_from_ok (P := P) (k := k) (L := L) (S := S) H fq fs hn ha hu
  have e2 := between_ok (P := P) (k := k + 5) (i := many) (x := "many") (L := L) (S := S) H.s.r fb (by omega) (by omega)
  have e3 := power_by_ok (P := P) (k := k + 1) (L := L) (S := S) H fr fu fp hn hm h
  simp only [Lb.df_table_power, H.s.r.af, ↓Z, Vl, VC, ↓ZL, ↓ZC, ↓reduceIte, Nat.reduceAdd, Nat.reduceSub, q_i0, q_i1, zipR, z_kok, z_ret, eq_self, decide_true, decide_false, Bool.not_true, Bool.not_false, len_r, List.length_range, List.length_map, ↓z_callS e1, ↓z_callS e2, ↓z_callS e3]
/-! ### sizes -/
theorem sum_rb {a b : Nat} : ∀ {n : Nat} {f : Nat → Rat}, (∀ i < n, Rb a (f i)) → 1 + n * (a + 1) ≤ b → Rb b (sumN n f)
  | 0, f, _, hb => ⟨Sm.mono (j := 1) (show Sm 1 0 by unfold Sm; decide) (by omega), Sm.mono (j := 1) (show Sm 1 1 by unfold Sm; decide) (by omega)⟩
  | n + 1, f, h, hb => by
    have h1 := sum_rb (b := 1 + n * (a + 1)) (fun i hi => h i (Nat.lt_succ_of_lt hi)) (Nat.le_refl _)
    exact (h1.add (h n (Nat.lt_succ_self n))).mono (by rw [Nat.succ_mul] at hb; omega)
/-- a product of small tables -/
theorem pr_ok {m n p a b c : Nat} {u v : Nat → Nat → Rat} (hu : ∀ i < m, ∀ t < n, Rb a (u i t)) (hv : ∀ t < n, ∀ j < p, Rb b (v t j)) (hn : n ≤ 3) (hc : 1 + 3 * (a + b + 1) ≤ c) (hc2 : c ≤ 3900) : PrOk m n p u v ∧ ∀ i < m, ∀ j < p, Rb c (mm n u v i j) := by
  refine ⟨⟨fun i hi t ht => (hu i hi t ht).mono (by omega), fun i hi t ht j hj => ⟨(hv t ht j hj).mono (by omega), ((hu i hi t ht).mul (hv t ht j hj)).mono (by omega), ?_⟩⟩, fun i hi j hj => ?_⟩
  · refine (sum_rb (a := a + b) (b := 1 + t * (a + b + 1)) (fun s hs => (hu i hi s (by omega)).mul (hv s (by omega) j hj)) (Nat.le_refl _)).mono ?_
    have := Nat.mul_le_mul_right (a + b + 1) (show t ≤ 3 by omega)
    omega
  · refine (sum_rb (a := a + b) (b := 1 + n * (a + b + 1)) (fun s hs => (hu i hi s hs).mul (hv s hs j hj)) (Nat.le_refl _)).mono ?_
    have := Nat.mul_le_mul_right (a + b + 1) hn
    omega
end Rf
/-! Rd: tables drawn -/
namespace Rf
open PySem PySem.Spec L2
theorem lratio_ok {P : Prg} {k : Nat} {most : Int} {p : Pen} (L : List (Option D)) (S : Sto) (H : HasPen P) (HQ : HasQ P) (f : P.defs.lookup ("_law_ratio" : Str) = some Lb.df__law_ratio) (h : p.Ok) (hc : p.ct < 2 ^ 39) (h0 : 0 < most) (h1 : most < 4) :
    ∃ (x : Rat) (q : Pen), callN P (k + 3) "_law_ratio" [.cel 0, .int most] L (p.c :: S) = some (.ok (.val (qD x)), q.c :: S) ∧ q.Ok ∧ q.ct ≤ p.ct + 2 ∧ Rb 2 x := by
  have sm : Sm 20 most := by unfold Sm; omega
  obtain ⟨d, p0, e, p1, p2, d0, d2⟩ := draw_ok (P := P) (k := k + 1) (m := 2 * most + 1) L S H h (by omega) (by omega) (Sm.mono (j := 22) (by unfold Sm; omega) (by decide))
  obtain ⟨y, q, e2, q1, q2, hy⟩ := pick_lst (P := P) (k := k) (p := p0) (xs := [.int 1, .int 1, .int 1, .int 2, .int 3]) L S H p1 (by omega) (by simp) (by decide)
  have hm : ∃ m : Int, y = .int m ∧ 0 < m ∧ m ≤ 3 := by
    simp only [List.mem_cons, List.not_mem_nil, or_false] at hy
    rcases hy with rfl | rfl | rfl | rfl | rfl
    · exact ⟨1, rfl, by decide, by decide⟩
    · exact ⟨1, rfl, by decide, by decide⟩
    · exact ⟨1, rfl, by decide, by decide⟩
    · exact ⟨2, rfl, by decide, by decide⟩
    · exact ⟨3, rfl, by decide, by decide⟩
  obtain ⟨m, rfl, m0, m5⟩ := hm
  have ml := b_mulS (a := 2) (b := most) (Sm.mono (j := 2) (by unfold Sm; decide) (by decide)) (sm.mono (by decide))
  have e3 := law_q (k := k) (t := d - most) (b := m) (L := L) (S := q.c :: S) HQ (by omega) ((sm_small m0 (by omega)).mono (by decide))
  refine ⟨Rat.divInt (d - most) m, q, call_rt f rfl ?_, q1, by omega, .of (by omega) (by unfold Sm; omega) (by unfold Sm; omega)⟩
  simp only [Lb.df__law_ratio, H.af, ↓Z, Vl, VC, ↓ZL, ↓ZC, ↓reduceIte, Nat.reduceAdd, Nat.reduceSub, q_i0, q_i1, zipR, z_kok, z_ret, eq_self, decide_true, decide_false, Bool.not_true, Bool.not_false, len_r, List.length_range, List.length_map, ml, ↓z_callSD e, ↓z_callSD e2, ↓z_callS e3]
/-- a list of so many is a row of places -/
theorem as_range {l : List D} {n : Nat} (h : l.length = n) : l = (List.range n).map fun j => l.getD j .non := by
  subst h
  refine List.ext_getElem (by simp) fun i h1 h2 => ?_
  simp [List.getD_eq_getElem?_getD, List.getElem?_eq_getElem h1]
theorem getD_app {l : List D} {y : D} {j : Nat} : (l ++ [y]).getD j .non = if j < l.length then l.getD j .non else if j = l.length then y else .non := by
  rw [List.getD_eq_getElem?_getD, List.getD_eq_getElem?_getD]
  by_cases h : j < l.length
  · rw [if_pos h, List.getElem?_append_left h]
  · rw [if_neg h, List.getElem?_append_right (by omega)]
    by_cases h2 : j = l.length
    · subst h2
      simp
    · rw [if_neg h2, List.getElem?_eq_none (by simp; omega)]
      rfl
theorem passed_ok {P : Prg} {k : Nat} {l : List D} {p : Pen} (L : List (Option D)) (S : Sto) (H : HasPen P) (f : P.defs.lookup ("_law_passed" : Str) = some Lb.df__law_passed) (h : p.Ok) (hc : p.ct < 2 ^ 39) :
    ∃ (b : Bool) (q : Pen), callN P (k + 3) "_law_passed" [.cel 0, .lst l] L (p.c :: S) = some (.ok (.val (rwD b l)), q.c :: S) ∧ q.Ok ∧ q.ct = p.ct + 1 := by
  obtain ⟨y, q, e2, q1, q2, hy⟩ := pick_lst (P := P) (k := k) (p := p) (xs := [.tup l, .lst l]) L S H h (by omega) (by simp) (by show 2 ≤ _; decide)
  have hb : ∃ b, y = rwD b l := by
    simp only [List.mem_cons, List.not_mem_nil, or_false] at hy
    rcases hy with rfl | rfl
    · exact ⟨false, rfl⟩
    · exact ⟨true, rfl⟩
  obtain ⟨b, rfl⟩ := hb
  refine ⟨b, q, call_rt f rfl ?_, q1, q2⟩
  simp only [Lb.df__law_passed, H.af, ↓Z, Vl, VC, ↓ZL, ↓ZC, ↓reduceIte, Nat.reduceAdd, Nat.reduceSub, q_i0, q_i1, zipR, z_kok, z_ret, eq_self, decide_true, decide_false, Bool.not_true, Bool.not_false, len_r, List.length_range, List.length_map, ↓z_callS e2]
theorem handed_row_ok {P : Prg} {k n : Nat} {u : Nat → Rat} {p : Pen} (L : List (Option D)) (S : Sto) (H : HasPen P) (fh : P.defs.lookup ("_law_handed" : Str) = some Lb.df__law_handed) (f : P.defs.lookup ("_law_handed_row" : Str) = some Lb.df__law_handed_row) (hn : n ≤ 12) (hu : ∀ j < n, Rb 3900 (u j)) (h : p.Ok) (hc : p.ct < 2 ^ 38) :
    ∃ (a : Nat → D) (b : Bool) (q : Pen), callN P (k + 4) "_law_handed_row" [.cel 0, rD n u] L (p.c :: S) = some (.ok (.val (rwD b ((List.range n).map a))), q.c :: S) ∧ q.Ok ∧ q.ct ≤ p.ct + 40 ∧ ∀ j < n, Hd (u j) (a j) := by
  obtain ⟨zs, S', r, ⟨q, rfl, q1, q2, q3, q4⟩⟩ := lcB_ind (r := ev P (callN P (k + 3)) 58) (elt := .call "_law_handed" [(.var 0), (.var 3)]) (t := [3]) (one := true) (ifs := []) (own := [3]) (is := [1]) (ds := (List.range n).map fun j => qD (u j)) (env := [.val (.cel 0), .val (rD n u), .un, .un]) (S := p.c :: S) (L := L)
    (fun dn xs S2 => ∃ q : Pen, S2 = q.c :: S ∧ q.Ok ∧ q.ct ≤ p.ct + 3 * dn.length ∧ xs.length = dn.length ∧ ∀ j < dn.length, Hd (u j) (xs.getD j .non))
    (by rw [len_r]; exact le_line (by omega)) rfl rfl rfl ⟨p, rfl, h, Nat.le_refl _, rfl, fun j hj => absurd hj (by simp)⟩ (fun pre d post xs S2 e ⟨q, e2, q1, q2, q3, q4⟩ => by
      subst e2
      have hp : pre.length < n := by
        have := congrArg List.length e
        simp at this
        omega
      have ed : qD (u pre.length) = d := by
        have := congrArg (fun l : List D => l[pre.length]?) e
        simp only [get_r hp] at this
        simpa using this
      subst ed
      obtain ⟨a, q5, c5, o5, n5, ha⟩ := handed_ok (P := P) (k := k) (p := q) (x := u pre.length) L S H fh (hu _ hp) q1 (by omega)
      refine ⟨[a], q5.c :: S, [.val (.cel 0), .val (rD n u), .un, .val (qD (u pre.length))], ?_, rfl, q5, rfl, o5, by rw [List.length_append, List.length_singleton]; omega, by rw [List.length_append, List.length_append, q3]; rfl, fun j hj => ?_⟩
      · simp only [↓Z, Vl, VC, ↓ZL, ↓ZC, ↓reduceIte, Nat.reduceAdd, Nat.reduceSub, q_i0, q_i1, zipR, z_kok, z_ret, eq_self, decide_true, decide_false, Bool.not_true, Bool.not_false, len_r, List.length_range, List.length_map, ↓z_callSD c5]
      · rw [List.length_append, List.length_singleton] at hj
        rw [getD_app]
        by_cases hj2 : j < pre.length
        · rw [if_pos (by omega)]
          exact q4 j hj2
        · rw [if_neg (by omega), if_pos (by omega), show j = pre.length by omega]
          exact ha)
  rw [len_r] at q2 q3 q4
  obtain ⟨y, q6, e6, o6, n6, hy⟩ := pick_lst (P := P) (k := k + 1) (p := q) (xs := [.tup zs, .lst zs]) L S H q1 (by omega) (by simp) (by show 2 ≤ _; decide)
  have hb : ∃ b, y = rwD b zs := by
    simp only [List.mem_cons, List.not_mem_nil, or_false] at hy
    rcases hy with rfl | rfl
    · exact ⟨false, rfl⟩
    · exact ⟨true, rfl⟩
  obtain ⟨b, rfl⟩ := hb
  refine ⟨fun j => zs.getD j .non, b, q6, ?_, o6, by omega, q4⟩
  rw [← as_range q3]
  refine call_rt f rfl ?_
  simp only [Lb.df__law_handed_row, H.af, ↓Z, Vl, VC, ↓ZL, ↓ZC, ↓reduceIte, Nat.reduceAdd, Nat.reduceSub, q_i0, q_i1, zipR, z_kok, z_ret, eq_self, decide_true, decide_false, Bool.not_true, Bool.not_false, len_r, List.length_range, List.length_map]
  rw [z_run r]
  simp only [↓Z, Vl, VC, ↓ZL, ↓ZC, ↓reduceIte, Nat.reduceAdd, Nat.reduceSub, q_i0, q_i1, zipR, z_kok, z_ret, eq_self, decide_true, decide_false, Bool.not_true, Bool.not_false, len_r, List.length_range, List.length_map, ↓z_callS e6]
theorem handed_table_ok {P : Prg} {k m n : Nat} {u : Nat → Nat → Rat} {p : Pen} (L : List (Option D)) (S : Sto) (H : HasPen P) (fh : P.defs.lookup ("_law_handed" : Str) = some Lb.df__law_handed) (fr : P.defs.lookup ("_law_handed_row" : Str) = some Lb.df__law_handed_row) (fp : P.defs.lookup ("_law_passed" : Str) = some Lb.df__law_passed) (f : P.defs.lookup ("_law_handed_table" : Str) = some Lb.df__law_handed_table) (hm : m ≤ 12) (hn : n ≤ 12) (hu : ∀ i < m, ∀ j < n, Rb 3900 (u i j)) (h : p.Ok) (hc : p.ct < 2 ^ 37) :
    ∃ (t : D) (q : Pen), callN P (k + 5) "_law_handed_table" [.cel 0, tD m n u] L (p.c :: S) = some (.ok (.val t), q.c :: S) ∧ q.Ok ∧ q.ct ≤ p.ct + 500 ∧ HdT m n u t := by
  obtain ⟨zs, S', r, ⟨q, rfl, q1, q2, q3, q4⟩⟩ := lcB_ind (r := ev P (callN P (k + 4)) 57) (elt := .call "_law_handed_row" [(.var 0), (.var 2)]) (t := [2]) (one := true) (ifs := []) (own := [2]) (is := [1]) (ds := (List.range m).map fun i => rD n (u i)) (env := [.val (.cel 0), .val (tD m n u), .un]) (S := p.c :: S) (L := L)
    (fun dn xs S2 => ∃ q : Pen, S2 = q.c :: S ∧ q.Ok ∧ q.ct ≤ p.ct + 40 * dn.length ∧ xs.length = dn.length ∧ ∀ i < dn.length, ∃ a b, xs.getD i .non = rwD b ((List.range n).map a) ∧ ∀ j < n, Hd (u i j) (a j))
    (by rw [len_r]; exact le_line (by omega)) rfl rfl rfl ⟨p, rfl, h, Nat.le_refl _, rfl, fun j hj => absurd hj (by simp)⟩ (fun pre d post xs S2 e ⟨q, e2, q1, q2, q3, q4⟩ => by
      subst e2
      have hp : pre.length < m := by
        have := congrArg List.length e
        simp at this
        omega
      have ed : rD n (u pre.length) = d := by
        have := congrArg (fun l : List D => l[pre.length]?) e
        simp only [get_r hp] at this
        simpa using this
      subst ed
      obtain ⟨a, b, q5, c5, o5, n5, ha⟩ := handed_row_ok (P := P) (k := k) (p := q) (u := u pre.length) L S H fh fr hn (hu _ hp) q1 (by omega)
      refine ⟨[rwD b ((List.range n).map a)], q5.c :: S, [.val (.cel 0), .val (tD m n u), .val (rD n (u pre.length))], ?_, rfl, q5, rfl, o5, by rw [List.length_append, List.length_singleton]; omega, by rw [List.length_append, List.length_append, q3]; rfl, fun j hj => ?_⟩
      · simp only [↓Z, Vl, VC, ↓ZL, ↓ZC, ↓reduceIte, Nat.reduceAdd, Nat.reduceSub, q_i0, q_i1, zipR, z_kok, z_ret, eq_self, decide_true, decide_false, Bool.not_true, Bool.not_false, len_r, List.length_range, List.length_map, ↓z_callSD c5]
      · rw [List.length_append, List.length_singleton] at hj
        rw [getD_app]
        by_cases hj2 : j < pre.length
        · rw [if_pos (by omega)]
          exact q4 j hj2
        · rw [if_neg (by omega), if_pos (by omega), show j = pre.length by omega]
          exact ⟨a, b, rfl, ha⟩)
  rw [len_r] at q2 q3 q4
  obtain ⟨b, q6, e6, o6, n6⟩ := passed_ok (P := P) (k := k + 1) (p := q) (l := zs) L S H fp q1 (by omega)
  have q5 : ∀ i : Nat, ∃ a : Nat → D, ∃ b : Bool, i < m → zs.getD i .non = rwD b ((List.range n).map a) ∧ ∀ j < n, Hd (u i j) (a j) := fun i => by
    by_cases hi : i < m
    · obtain ⟨a, b, e⟩ := q4 i hi
      exact ⟨a, b, fun _ => e⟩
    · exact ⟨fun _ => .non, false, fun z => absurd z hi⟩
  obtain ⟨aa, ha⟩ := Classical.skolem.mp q5
  obtain ⟨bb, hb⟩ := Classical.skolem.mp ha
  refine ⟨rwD b zs, q6, call_rt f rfl ?_, o6, by omega, aa, bb, b, fun i hi j hj => (hb i hi).2 j hj, ?_⟩
  · simp only [Lb.df__law_handed_table, H.af, ↓Z, Vl, VC, ↓ZL, ↓ZC, ↓reduceIte, Nat.reduceAdd, Nat.reduceSub, q_i0, q_i1, zipR, z_kok, z_ret, eq_self, decide_true, decide_false, Bool.not_true, Bool.not_false, len_r, List.length_range, List.length_map]
    rw [z_runD r]
    simp only [↓Z, Vl, VC, ↓ZL, ↓ZC, ↓reduceIte, Nat.reduceAdd, Nat.reduceSub, q_i0, q_i1, zipR, z_kok, z_ret, eq_self, decide_true, decide_false, Bool.not_true, Bool.not_false, len_r, List.length_range, List.length_map, ↓z_callS e6]
  · conv => lhs; rw [as_range q3]
    refine congrArg (rwD b) (List.map_congr_left fun i hi => (hb i (List.mem_range.mp hi)).1)
/-- a slot is free to be stored -/
def Fre (e : Bd) : Prop := ∀ l b, setE (e :: l) 0 b = some (b :: l)
theorem Fre.v {d : D} : Fre (.val d) := fun _ _ => rfl
theorem Fre.o {d : List D} : Fre (.own d) := fun _ _ => rfl
theorem Fre.u : Fre .un := fun _ _ => rfl
/-- a comprehension over a list of ours -/
theorem lcB_indO {r : Rec} {elt : I} {t : List Nat} {one : Bool} {ifs : List I} {own : List Nat} {i : Nat} {os ds : List D} {env : List Bd} {S : Sto} {L : List (Option D)} (J : List D → List D → Sto → Prop) (hl : ds.length ≤ line) (hn : noLent own env = true) (hd : (own.all fun j => !([i] : List Nat).contains j) = true) (hi : env[i]? = some (.own os))
    (h0 : J [] [] S) (st : ∀ pre d post xs S, ds = pre ++ d :: post → J pre xs S → ∃ ys S' e', lcS r elt t one ifs d ⟨wipeE own (env.set i (.lent os)), S, L⟩ = some (.ok ys, ⟨e', S', L⟩) ∧ wipeE own e' = wipeE own (env.set i (.lent os)) ∧ J (pre ++ [d]) (xs ++ ys) S') :
    ∃ zs S', lcB r elt t one ifs own (ds, [i]) ⟨env, S, L⟩ = some (.ok (.fresh zs), ⟨env, S', L⟩) ∧ J ds zs S' := by
  have io : i ∉ own := fun z => by
    have := List.all_eq_true.mp hd i z
    simp at this
  have il : i < env.length := (List.getElem?_eq_some_iff.mp hi).1
  have l1 : lend [i] env = env.set i (.lent os) := by
    unfold lend
    rw [hi]
    rfl
  have ww : wipeE own (wipeE own (env.set i (.lent os))) = wipeE own (env.set i (.lent os)) := by
    refine List.ext_getElem? fun j => ?_
    simp only [wipe_get, wipe_len]
    split <;> rfl
  obtain ⟨zs, S', e', r1, w1, hj⟩ := lcL_ind (r := r) (elt := elt) (t := t) (one := one) (ifs := ifs) (own := own) (w0 := wipeE own (env.set i (.lent os))) (L := L) J ds [] [] S h0 (fun pre d post xs S e hj => by simpa using st pre d post xs S e (by simpa using hj)) ww
  refine ⟨zs, S', ?_, by simpa using hj⟩
  have hlen : e'.length = env.length := by
    have := congrArg List.length w1
    rwa [wipe_len, wipe_len, List.length_set] at this
  have ge : ∀ j : Nat, j ∉ own → e'[j]? = (env.set i (.lent os))[j]? := fun j hj => by
    have := congrArg (fun l : List Bd => l[j]?) w1
    simp only [wipe_get] at this
    rwa [if_neg (fun z => hj z.1), if_neg (fun z => hj z.1)] at this
  have ei : e'[i]? = some (.lent os) := by
    rw [ge i io, List.getElem?_set_self il]
  have bk : back env [i] e' = e'.set i (.own os) := by
    unfold back
    rw [hi, ei]
    rfl
  have fin2 : unwipe own env (e'.set i (.own os)) = env := by
    refine List.ext_getElem? fun j => ?_
    rw [unwipe_get]
    split
    · rename_i z
      rw [List.length_set] at z
      rw [List.getD_eq_getElem?_getD, List.getElem?_eq_getElem (by omega)]
      rfl
    · rename_i z
      rw [List.length_set] at z
      by_cases e : i = j
      · subst e
        rw [List.getElem?_set_self (by omega), hi]
      · rw [List.getElem?_set_ne e]
        by_cases hj : j ∈ own
        · have : ¬ j < e'.length := fun y => z ⟨hj, y⟩
          rw [List.getElem?_eq_none (by omega), List.getElem?_eq_none (by omega)]
        · rw [ge j hj, List.getElem?_set_ne e]
  unfold lcB
  rw [if_pos hl]
  show (if noLent own env = true ∧ _ then _ else none) = _
  rw [if_pos ⟨hn, hd⟩]
  show (match lcL r elt t one ifs own ds ⟨wipeE own (lend [i] env), S, L⟩ with
      | some (Except.ok xs, s') => some (Except.ok (R.fresh xs), { s' with env := unwipe own env (back env [i] s'.env) })
      | _ => none) = _
  rw [l1, r1]
  simp only
  rw [bk, fin2]
theorem z_lendR {α β : Type} {is : List Nat} {m : Ev α} {f : α → Ev β} {env e' : List Bd} {S S' : Sto} {L L' : List (Option D)} {x : α} (h : m ⟨lend is env, S, L⟩ = some (.ok x, ⟨e', S', L'⟩)) : Ev.bind (lending is m) f ⟨env, S, L⟩ = f x ⟨back env is e', S', L'⟩ := by
  unfold Ev.bind lending
  show (match (match m ⟨lend is env, S, L⟩ with | none => none | some (x, s') => some (x, { s' with env := back env is s'.env })) with | none => none | some (Except.error x, s') => some (Except.error x, s') | some (Except.ok a, s') => f a s') = _
  rw [h]
theorem z_rb0 {k : Nat} : Rb (k + 1) 0 := ⟨Sm.mono (j := 1) (show Sm 1 0 by unfold Sm; decide) (by omega), Sm.mono (j := 1) (show Sm 1 1 by unfold Sm; decide) (by omega)⟩
theorem ite_rb {k : Nat} {c : Prop} [Decidable c] {x y : Rat} (h : Rb k x) (g : Rb k y) : Rb k (if c then x else y) := by
  split
  · exact h
  · exact g
/-- a row of so many drawn ratios -/
theorem map_snoc {n : Nat} {g : Nat → Rat} {x : Rat} : (List.range n).map (fun j => qD (g j)) ++ [qD x] = (List.range (n + 1)).map fun j => qD (if j < n then g j else x) := by
  rw [List.range_succ, List.map_append]
  congr 1
  · exact List.map_congr_left fun j hj => by rw [if_pos (List.mem_range.mp hj)]
  · simp
theorem pre_len {ds pre post : List D} {d : D} {n : Nat} (h : ds.length = n) (e : ds = pre ++ d :: post) : pre.length < n := by
  have := congrArg List.length e
  rw [h] at this
  simp at this
  omega
theorem fresh_row {P : Prg} {k m n w : Nat} {p : Pen} {e3 e4 e5 e6 e7 e8 e9 : Bd} {d1 : D} (L : List (Option D)) (S : Sto) (H : HasPen P) (HQ : HasQ P) (fr : P.defs.lookup ("_law_ratio" : Str) = some Lb.df__law_ratio) (hn : n ≤ 12) (h : p.Ok) (hc : p.ct < 2 ^ 36) (h9 : noLent [9] [.val (.cel 0), .val d1, .val (.int n), e3, e4, e5, e6, e7, e8, e9] = true) :
    ∃ (g : Nat → Rat) (q : Pen), lcB (ev P (callN P (k + 3)) (m + 8)) (.ite (.cmp .Gt (.call "_law_draw" [(.var 0), (.cst (.int 4))]) (.cst (.int 0))) (.call "_law_ratio" [(.var 0), (.cst (.int 2))]) (.tup [(.cst (.int 0)), (.cst (.int 1))])) [9] true [] [9] ((List.range n).map fun j => .int (j : Nat), []) ⟨[.val (.cel 0), .val d1, .val (.int n), e3, e4, e5, e6, e7, e8, e9], p.c :: S, L⟩ = some (.ok (.fresh ((List.range n).map fun j => qD (g j))), ⟨[.val (.cel 0), .val d1, .val (.int n), e3, e4, e5, e6, e7, e8, e9], q.c :: S, L⟩) ∧ q.Ok ∧ q.ct ≤ p.ct + 40 ∧ ∀ j, Rb 2 (g j) := by
  obtain ⟨zs, S', r, ⟨q, g, rfl, q1, q2, rfl, q4⟩⟩ := lcB_ind (r := ev P (callN P (k + 3)) (m + 8)) (elt := .ite (.cmp .Gt (.call "_law_draw" [(.var 0), (.cst (.int 4))]) (.cst (.int 0))) (.call "_law_ratio" [(.var 0), (.cst (.int 2))]) (.tup [(.cst (.int 0)), (.cst (.int 1))])) (t := [9]) (one := true) (ifs := []) (own := [9]) (is := []) (ds := (List.range n).map fun j => .int (j : Nat)) (env := [.val (.cel 0), .val d1, .val (.int n), e3, e4, e5, e6, e7, e8, e9]) (S := p.c :: S) (L := L)
    (fun dn xs S2 => ∃ (q : Pen) (g : Nat → Rat), S2 = q.c :: S ∧ q.Ok ∧ q.ct ≤ p.ct + 3 * dn.length ∧ xs = (List.range dn.length).map (fun j => qD (g j)) ∧ ∀ j, Rb 2 (g j))
    (by rw [len_r]; exact le_line (by omega)) h9 rfl rfl ⟨p, fun _ => 0, rfl, h, Nat.le_refl _, rfl, fun j => z_rb0⟩ (fun pre d post xs S2 e ⟨q, g, e2, q1, q2, q3, q4⟩ => by
      subst e2
      subst q3
      have hp := pre_len len_r e
      obtain ⟨t, q5, c5, o5, n5, t0, t4⟩ := draw_ok (P := P) (k := k + 2) (p := q) (m := 4) L S H q1 (by omega) (by decide) (Sm.mono (j := 3) (by unfold Sm; decide) (by decide))
      by_cases ht : 0 < t
      · obtain ⟨x, q6, c6, o6, n6, bx⟩ := lratio_ok (P := P) (k := k) (p := q5) (most := 2) L S H HQ fr o5 (by omega) (by decide) (by decide)
        refine ⟨[qD x], q6.c :: S, [.val (.cel 0), .val d1, .val (.int n), e3, e4, e5, e6, e7, e8, .val d], ?_, rfl, q6, fun j => if j < pre.length then g j else x, rfl, o6, by rw [List.length_append, List.length_singleton]; omega, ?_, fun j => ite_rb (q4 j) bx⟩
        · simp only [↓Z, Vl, VC, ↓ZL, ↓ZC, ↓reduceIte, Nat.reduceAdd, Nat.reduceSub, q_i0, q_i1, zipR, z_kok, z_ret, eq_self, decide_true, decide_false, Bool.not_true, Bool.not_false, len_r, List.length_range, List.length_map, ↓z_callSD c5, ↓z_callSD c6, ht]
        · rw [List.length_append, List.length_singleton]
          exact map_snoc
      · refine ⟨[qD 0], q5.c :: S, [.val (.cel 0), .val d1, .val (.int n), e3, e4, e5, e6, e7, e8, .val d], ?_, rfl, q5, fun j => if j < pre.length then g j else 0, rfl, o5, by rw [List.length_append, List.length_singleton]; omega, ?_, fun j => ite_rb (q4 j) z_rb0⟩
        · simp only [↓Z, Vl, VC, ↓ZL, ↓ZC, ↓reduceIte, Nat.reduceAdd, Nat.reduceSub, q_i0, q_i1, zipR, z_kok, z_ret, eq_self, decide_true, decide_false, Bool.not_true, Bool.not_false, len_r, List.length_range, List.length_map, ↓z_callSD c5, ht, nil_q]
        · rw [List.length_append, List.length_singleton]
          exact map_snoc)
  rw [len_r] at q2 r
  exact ⟨g, q, r, q1, by omega, q4⟩
/-- a ratio for each row there is -/
theorem by_row {P : Prg} {k m i n : Nat} {F : Nat → Nat → Rat} {p : Pen} {e4 e5 e6 e7 e8 e9 : Bd} {d1 d2 : D} (L : List (Option D)) (S : Sto) (H : HasPen P) (HQ : HasQ P) (fr : P.defs.lookup ("_law_ratio" : Str) = some Lb.df__law_ratio) (hi : i ≤ 12) (h : p.Ok) (hc : p.ct < 2 ^ 36) (h8 : noLent [8] [.val (.cel 0), .val d1, .val d2, .own ((List.range i).map fun r => rD n (F r)), e4, e5, e6, e7, e8, e9] = true) :
    ∃ (g : Nat → Rat) (q : Pen), lcB (ev P (callN P (k + 3)) (m + 8)) (.call "_law_ratio" [(.var 0), (.cst (.int 2))]) [8] true [] [8] ((List.range i).map fun r => rD n (F r), [3]) ⟨[.val (.cel 0), .val d1, .val d2, .own ((List.range i).map fun r => rD n (F r)), e4, e5, e6, e7, e8, e9], p.c :: S, L⟩ = some (.ok (.fresh ((List.range i).map fun j => qD (g j))), ⟨[.val (.cel 0), .val d1, .val d2, .own ((List.range i).map fun r => rD n (F r)), e4, e5, e6, e7, e8, e9], q.c :: S, L⟩) ∧ q.Ok ∧ q.ct ≤ p.ct + 40 ∧ ∀ j, Rb 2 (g j) := by
  obtain ⟨zs, S', r, ⟨q, g, rfl, q1, q2, rfl, q4⟩⟩ := lcB_indO (r := ev P (callN P (k + 3)) (m + 8)) (elt := .call "_law_ratio" [(.var 0), (.cst (.int 2))]) (t := [8]) (one := true) (ifs := []) (own := [8]) (i := 3) (os := (List.range i).map fun r => rD n (F r)) (ds := (List.range i).map fun r => rD n (F r)) (env := [.val (.cel 0), .val d1, .val d2, .own ((List.range i).map fun r => rD n (F r)), e4, e5, e6, e7, e8, e9]) (S := p.c :: S) (L := L)
    (fun dn xs S2 => ∃ (q : Pen) (g : Nat → Rat), S2 = q.c :: S ∧ q.Ok ∧ q.ct ≤ p.ct + 3 * dn.length ∧ xs = (List.range dn.length).map (fun j => qD (g j)) ∧ ∀ j, Rb 2 (g j))
    (by rw [len_r]; exact le_line (by omega)) h8 rfl rfl ⟨p, fun _ => 0, rfl, h, Nat.le_refl _, rfl, fun j => z_rb0⟩ (fun pre d post xs S2 e ⟨q, g, e2, q1, q2, q3, q4⟩ => by
      subst e2
      subst q3
      have hp := pre_len len_r e
      obtain ⟨x, q6, c6, o6, n6, bx⟩ := lratio_ok (P := P) (k := k) (p := q) (most := 2) L S H HQ fr q1 (by omega) (by decide) (by decide)
      refine ⟨[qD x], q6.c :: S, [.val (.cel 0), .val d1, .val d2, .lent ((List.range i).map fun r => rD n (F r)), e4, e5, e6, e7, .val d, e9], ?_, rfl, q6, fun j => if j < pre.length then g j else x, rfl, o6, by rw [List.length_append, List.length_singleton]; omega, ?_, fun j => ite_rb (q4 j) bx⟩
      · simp only [↓Z, Vl, VC, ↓ZL, ↓ZC, ↓reduceIte, Nat.reduceAdd, Nat.reduceSub, q_i0, q_i1, zipR, z_kok, z_ret, eq_self, decide_true, decide_false, Bool.not_true, Bool.not_false, len_r, List.length_range, List.length_map, ↓z_callSD c6]
      · rw [List.length_append, List.length_singleton]
        exact map_snoc)
  rw [len_r] at q2 r
  exact ⟨g, q, r, q1, by omega, q4⟩
/-- bounds: of a sum of rows ahead, of a row -/
def Pn (s : Nat) : Nat := if s = 0 then 1 else if s = 1 then 6 else 15
def Bn (s : Nat) : Nat := if s = 0 then 2 else if s = 1 then 6 else 15
theorem comb_rb {i n : Nat} {F : Nat → Nat → Rat} {g : Nat → Rat} (hF : ∀ r < i, ∀ j < n, Rb (Bn r) (F r j)) (hg : ∀ j, Rb 2 (g j)) {j : Nat} (hj : j < n) : ∀ s, s ≤ i → s ≤ 2 → Rb (Pn s) (sumN s fun t => F t j * g t)
  | 0, _, _ => z_rb0
  | 1, h1, _ => (comb_rb hF hg hj 0 (by omega) (by omega)).add ((hF 0 (by omega) j hj).mul (hg 0)) |>.mono (by decide)
  | 2, h1, _ => (comb_rb hF hg hj 1 (by omega) (by omega)).add ((hF 1 (by omega) j hj).mul (hg 1)) |>.mono (by decide)
  | s + 3, _, h2 => absurd h2 (by omega)
/-- a slot with a value, or none -/
def Nl (e : Bd) : Prop := e = .un ∨ ∃ d, e = .val d
theorem Nl.fre {e : Bd} (h : Nl e) : Fre e := by
  rcases h with rfl | ⟨d, rfl⟩
  · exact .u
  · exact .v
theorem Nl.v {d : D} : Nl (.val d) := .inr ⟨d, rfl⟩
theorem Nl.u : Nl .un := .inl rfl
/-- the rows summed by the ratios -/
theorem comb_loop {P : Prg} {k m i n : Nat} {F : Nat → Nat → Rat} {g : Nat → Rat} {e4 e7 e8 : Bd} {d0 d1 d2 d5 : D} {e9 : Bd} {os : List D} (L : List (Option D)) (S : Sto) (H : HasA P) (fa : P.defs.lookup ("_law_add" : Str) = some Lb.df__law_add) (fs : P.defs.lookup ("_law_scaled" : Str) = some Lb.df__law_scaled) (hn : n ≤ 12) (hi : i ≤ 2) (hF : ∀ r < i, ∀ j < n, Rb (Bn r) (F r j)) (hg : ∀ j, Rb 2 (g j)) (h7 : Nl e7) (h8 : Nl e8) :
    ∃ f7 f8, Nl f7 ∧ Nl f8 ∧ forL [7, 8] false (sL (ev P (callN P (k + 4)) (m + 8)) [(.set (.nm 6) (.call "_law_add" [(.var 6), (.call "_law_scaled" [(.var 8), (.var 7)])]))]) ((List.range i).map fun j => .tup [qD (g j), rD n (F j)]) ⟨[.val d0, .val d1, .val d2, .lent os, e4, .val d5, .val (rD n fun _ => 0), e7, e8, e9], S, L⟩ = some (.ok .nx, ⟨[.val d0, .val d1, .val d2, .lent os, e4, .val d5, .val (rD n fun j => sumN i fun t => F t j * g t), f7, f8, e9], S, L⟩) := by
  have b15 : ∀ s, s < 3 → Bn s ≤ 15 := fun s hs => by unfold Bn; split; decide; split; decide; decide
  have p15 : ∀ s, s < 3 → Pn s ≤ 15 := fun s hs => by unfold Pn; split; decide; split; decide; decide
  obtain ⟨s', r, J⟩ := for_rng (t := [7, 8]) (one := false) (body := sL (ev P (callN P (k + 4)) (m + 8)) [(.set (.nm 6) (.call "_law_add" [(.var 6), (.call "_law_scaled" [(.var 8), (.var 7)])]))]) (enc := fun j => .tup [qD (g j), rD n (F j)]) (n := i)
    (s := ⟨[.val d0, .val d1, .val d2, .lent os, e4, .val d5, .val (rD n fun _ => 0), e7, e8, e9], S, L⟩)
    (fun a s => ∃ f7 f8, Nl f7 ∧ Nl f8 ∧ s = ⟨[.val d0, .val d1, .val d2, .lent os, e4, .val d5, .val (rD n fun j => sumN a fun t => F t j * g t), f7, f8, e9], S, L⟩)
    ⟨e7, e8, h7, h8, rfl⟩ (fun a s ha ⟨f7, f8, n7, n8, e⟩ => by
      subst e
      have e1 := lscaled_ok (P := P) (k := k) (n := n) (u := F a) (c := g a) (L := L) (S := S) H fs (by omega) (fun j hj => (hF a ha j hj).mono (Nat.le_trans (b15 a (by omega)) (by decide))) ((hg a).mono (by decide))
      have e2 := ladd_ok (P := P) (k := k) (n := n) (u := fun j => sumN a fun t => F t j * g t) (v := fun j => F a j * g a) (L := L) (S := S) H fa (by omega) (fun j hj => (comb_rb hF hg hj a (by omega) (by omega)).mono (Nat.le_trans (p15 a (by omega)) (by decide))) (fun j hj => ((hF a ha j hj).mul (hg a)).mono (by have := b15 a (by omega); omega))
      refine ⟨⟨[.val d0, .val d1, .val d2, .lent os, e4, .val d5, .val (rD n fun j => sumN (a + 1) fun t => F t j * g t), .val (qD (g a)), .val (rD n (F a)), e9], S, L⟩, ?_, ⟨_, _, .v, .v, rfl⟩⟩
      rw [z_lap]
      simp only [↓Z, Vl, VC, ↓ZL, ↓ZC, ↓reduceIte, Nat.reduceAdd, Nat.reduceSub, q_i0, q_i1, zipR, z_kok, z_ret, eq_self, decide_true, decide_false, Bool.not_true, Bool.not_false, len_r, List.length_range, List.length_map, n7.fre _ _, n8.fre _ _, ↓z_callSD e1, ↓z_callS e2, sumN])
  obtain ⟨f7, f8, n7, n8, rfl⟩ := J
  exact ⟨f7, f8, n7, n8, r⟩
abbrev stBody : List J := [(.iff (.and (.cmp .NotEq (.var 3) (.lst [])) (.cmp .Eq (.call "_law_draw" [(.var 0), (.cst (.int 5))]) (.cst (.int 0)))) [(.par [5, 6] [(.lc (.call "_law_ratio" [(.var 0), (.cst (.int 2))]) [8] true (.var 3) [] [8]), (.call "_law_zeros" [(.var 2)])]), (.for_ [7, 8] false (.zip (.var 5) (.var 3)) [(.set (.nm 6) (.call "_law_add" [(.var 6), (.call "_law_scaled" [(.var 8), (.var 7)])]))]), (.ex (.app 3 (.var 6)))] [(.ex (.app 3 (.bi .tuple [(.lc (.ite (.cmp .Gt (.call "_law_draw" [(.var 0), (.cst (.int 4))]) (.cst (.int 0))) (.call "_law_ratio" [(.var 0), (.cst (.int 2))]) (.tup [(.cst (.int 0)), (.cst (.int 1))])) [9] true (.rng (.var 2)) [] [9])])))])]
theorem row_snoc {i n : Nat} {F : Nat → Nat → Rat} {x : Nat → Rat} : ((List.range i).map fun r => rD n (F r)) ++ [rD n x] = (List.range (i + 1)).map fun r => rD n (if r < i then F r else x) := by
  rw [List.range_succ, List.map_append]
  congr 1
  · exact List.map_congr_left fun j hj => by rw [if_pos (List.mem_range.mp hj)]
  · simp
/-- a row more -/
theorem st_lap {P : Prg} {k i n : Nat} {F : Nat → Nat → Rat} {p : Pen} {e4 e5 e6 e7 e8 e9 : Bd} {d1 dk : D} (L : List (Option D)) (S : Sto) (H : HasPen P) (HA : HasA P) (fr : P.defs.lookup ("_law_ratio" : Str) = some Lb.df__law_ratio) (fz : P.defs.lookup ("_law_zeros" : Str) = some Lb.df__law_zeros) (fa : P.defs.lookup ("_law_add" : Str) = some Lb.df__law_add) (fs : P.defs.lookup ("_law_scaled" : Str) = some Lb.df__law_scaled) (hn : n ≤ 12) (hi : i < 3) (h : p.Ok) (hc : p.ct < 2 ^ 35) (hF : ∀ r < i, ∀ j < n, Rb (Bn r) (F r j)) (h4 : Nl e4) (h5 : Nl e5) (h6 : Nl e6) (h7 : Nl e7) (h8 : Nl e8) (h9 : Nl e9) :
    ∃ (x : Nat → Rat) (q : Pen) (f5 f6 f7 f8 : Bd), lapE [4] true (sL (ev P (callN P (k + 4)) 59) stBody) dk ⟨[.val (.cel 0), .val d1, .val (.int n), .own ((List.range i).map fun r => rD n (F r)), e4, e5, e6, e7, e8, e9], p.c :: S, L⟩ = some (.ok .nx, ⟨[.val (.cel 0), .val d1, .val (.int n), .own (((List.range i).map fun r => rD n (F r)) ++ [rD n x]), .val dk, f5, f6, f7, f8, e9], q.c :: S, L⟩) ∧ q.Ok ∧ q.ct ≤ p.ct + 100 ∧ (∀ j < n, Rb (Bn i) (x j)) ∧ Nl f5 ∧ Nl f6 ∧ Nl f7 ∧ Nl f8 := by
  have hne := c_ne_l0 (S := p.c :: S) (nmL_tD (m := i) (n := n) (f := F)) (Nat.le_trans ddL_tD (by decide))
  have hl : i < line := Nat.lt_of_lt_of_le (show i < 1000 by omega) (le_line (Nat.le_refl _))
  have n9 : ∀ a5 a6 a7 a8 : Bd, noLent [9] [.val (.cel 0), .val d1, .val (.int n), .own ((List.range i).map fun r => rD n (F r)), .val dk, a5, a6, a7, a8, e9] = true := fun a5 a6 a7 a8 => by
    rcases h9 with rfl | ⟨d, rfl⟩ <;> rfl
  have n8 : ∀ a5 a6 a7 : Bd, noLent [8] [.val (.cel 0), .val d1, .val (.int n), .own ((List.range i).map fun r => rD n (F r)), .val dk, a5, a6, a7, e8, e9] = true := fun a5 a6 a7 => by
    rcases h8 with rfl | ⟨d, rfl⟩ <;> rfl
  have rest : ∀ p2 : Pen, p2.Ok → p2.ct ≤ p.ct + 1 → (∀ (f : Bool → Ev Fl), Ev.bind ((ev P (callN P (k + 4)) 58).t (.and (.cmp .NotEq (.var 3) (.lst [])) (.cmp .Eq (.call "_law_draw" [(.var 0), (.cst (.int 5))]) (.cst (.int 0))))) f ⟨[.val (.cel 0), .val d1, .val (.int n), .own ((List.range i).map fun r => rD n (F r)), .val dk, e5, e6, e7, e8, e9], p.c :: S, L⟩ = f false ⟨[.val (.cel 0), .val d1, .val (.int n), .own ((List.range i).map fun r => rD n (F r)), .val dk, e5, e6, e7, e8, e9], p2.c :: S, L⟩) → ∃ (x : Nat → Rat) (q : Pen) (f5 f6 f7 f8 : Bd), lapE [4] true (sL (ev P (callN P (k + 4)) 59) stBody) dk ⟨[.val (.cel 0), .val d1, .val (.int n), .own ((List.range i).map fun r => rD n (F r)), e4, e5, e6, e7, e8, e9], p.c :: S, L⟩ = some (.ok .nx, ⟨[.val (.cel 0), .val d1, .val (.int n), .own (((List.range i).map fun r => rD n (F r)) ++ [rD n x]), .val dk, f5, f6, f7, f8, e9], q.c :: S, L⟩) ∧ q.Ok ∧ q.ct ≤ p.ct + 100 ∧ (∀ j < n, Rb (Bn i) (x j)) ∧ Nl f5 ∧ Nl f6 ∧ Nl f7 ∧ Nl f8 := by
    intro p2 o2 c2 ht
    obtain ⟨g, q, r, q1, q2, q3⟩ := fresh_row (P := P) (k := k + 1) (m := 46) (n := n) (w := 0) (p := p2) (e3 := .own ((List.range i).map fun r => rD n (F r))) (e4 := .val dk) (e5 := e5) (e6 := e6) (e7 := e7) (e8 := e8) (e9 := e9) (d1 := d1) L S H HA.q fr hn o2 (by omega) (n9 e5 e6 e7 e8)
    refine ⟨g, q, e5, e6, e7, e8, ?_, q1, by omega, fun j _ => (q3 j).mono (by unfold Bn; split; decide; split; decide; decide), h5, h6, h7, h8⟩
    rw [z_lap]
    simp only [stBody, ↓z_put1, ↓z_putV, Vl, h4.fre _ _, ↓z_B_cons, ↓z_bb, ↓z_S_iff, ht]
    simp only [↓Z, Vl, VC, ↓ZL, ↓ZC, ↓reduceIte, Nat.reduceAdd, Nat.reduceSub, q_i0, q_i1, zipR, z_kok, z_ret, eq_self, decide_true, decide_false, Bool.not_true, Bool.not_false, len_r, List.length_range, List.length_map, s6N (show n ≤ 1000 by omega), Int.toNat_natCast, range_map]
    rw [z_runD r]
    simp only [↓Z, Vl, VC, ↓ZL, ↓ZC, ↓reduceIte, Nat.reduceAdd, Nat.reduceSub, q_i0, q_i1, zipR, z_kok, z_ret, eq_self, decide_true, decide_false, Bool.not_true, Bool.not_false, len_r, List.length_range, List.length_map, ↓reduceIte, hl]
  by_cases i0 : i = 0
  · subst i0
    refine rest p h (by omega) fun f => ?_
    simp only [↓Z, Vl, VC, ↓ZL, ↓ZC, ↓reduceIte, Nat.reduceAdd, Nat.reduceSub, q_i0, q_i1, zipR, z_kok, z_ret, eq_self, decide_true, decide_false, Bool.not_true, Bool.not_false, len_r, List.length_range, List.length_map, ↓ZL, List.range_zero, List.isEmpty_nil] at hne ⊢
    simp only [↓Z, Vl, VC, ↓ZL, ↓ZC, ↓reduceIte, Nat.reduceAdd, Nat.reduceSub, q_i0, q_i1, zipR, z_kok, z_ret, eq_self, decide_true, decide_false, Bool.not_true, Bool.not_false, len_r, List.length_range, List.length_map, hne]
  · have he : (!((List.range i).map fun r => rD n (F r)).isEmpty) = true := by
      cases i with
      | zero => exact absurd rfl i0
      | succ i => rw [List.range_succ_eq_map]; rfl
    rw [he] at hne
    obtain ⟨t, p2, c5, o5, n5, t0, t4⟩ := draw_ok (P := P) (k := k + 3) (p := p) (m := 5) L S H h (by omega) (by decide) (Sm.mono (j := 3) (by unfold Sm; decide) (by decide))
    by_cases ht : t = 0
    · obtain ⟨g, q, r, q1, q2, q3⟩ := by_row (P := P) (k := k + 1) (m := 48) (i := i) (n := n) (F := F) (p := p2) (e4 := .val dk) (e5 := e5) (e6 := e6) (e7 := e7) (e8 := e8) (e9 := e9) (d1 := d1) (d2 := .int n) L S H HA.q fr (by omega) o5 (by omega) (n8 e5 e6 e7)
      obtain ⟨f7, f8, m7, m8, r2⟩ := comb_loop (P := P) (k := k) (m := 49) (i := i) (n := n) (F := F) (g := g) (e4 := .val dk) (e7 := e7) (e8 := e8) (e9 := e9) (d0 := .cel 0) (d1 := d1) (d2 := .int n) (d5 := .lst ((List.range i).map fun j => qD (g j))) (os := (List.range i).map fun r => rD n (F r)) L (q.c :: S) HA fa fs hn (by omega) hF q3 h7 h8
      have ez := lzeros_ok (P := P) (k := k + 3) (n := n) (L := L) (S := q.c :: S) H.af fz (by omega)
      refine ⟨fun j => sumN i fun t => F t j * g t, q, .val (.lst ((List.range i).map fun j => qD (g j))), .val (rD n fun j => sumN i fun t => F t j * g t), f7, f8, ?_, q1, by omega, fun j hj => (comb_rb hF q3 hj i (Nat.le_refl i) (by omega)).mono (by unfold Pn Bn; split; decide; split; decide; decide), .v, .v, m7, m8⟩
      rw [z_lap]
      simp only [stBody, ↓Z, Vl, VC, ↓ZL, ↓ZC, ↓reduceIte, Nat.reduceAdd, Nat.reduceSub, q_i0, q_i1, zipR, z_kok, z_ret, eq_self, decide_true, decide_false, Bool.not_true, Bool.not_false, len_r, List.length_range, List.length_map, h4.fre _ _, hne, ↓z_callSD c5, decide_eq_true ht]
      rw [z_runD r]
      simp only [↓Z, Vl, VC, ↓ZL, ↓ZC, ↓reduceIte, Nat.reduceAdd, Nat.reduceSub, q_i0, q_i1, zipR, z_kok, z_ret, eq_self, decide_true, decide_false, Bool.not_true, Bool.not_false, len_r, List.length_range, List.length_map, ↓z_callSD ez, h5.fre _ _, h6.fre _ _]
      rw [z_lendR r2]
      simp only [↓Z, Vl, VC, ↓ZL, ↓ZC, ↓reduceIte, Nat.reduceAdd, Nat.reduceSub, q_i0, q_i1, zipR, z_kok, z_ret, eq_self, decide_true, decide_false, Bool.not_true, Bool.not_false, len_r, List.length_range, List.length_map, back, hl]
    · refine rest p2 o5 (by omega) fun f => ?_
      simp only [↓Z, Vl, VC, ↓ZL, ↓ZC, ↓reduceIte, Nat.reduceAdd, Nat.reduceSub, q_i0, q_i1, zipR, z_kok, z_ret, eq_self, decide_true, decide_false, Bool.not_true, Bool.not_false, len_r, List.length_range, List.length_map, hne, ↓z_callSD c5, decide_eq_false ht]
theorem some_table_ok {P : Prg} {k m n : Nat} {p : Pen} (L : List (Option D)) (S : Sto) (H : HasPen P) (HA : HasA P) (fr : P.defs.lookup ("_law_ratio" : Str) = some Lb.df__law_ratio) (fz : P.defs.lookup ("_law_zeros" : Str) = some Lb.df__law_zeros) (fa : P.defs.lookup ("_law_add" : Str) = some Lb.df__law_add) (fs : P.defs.lookup ("_law_scaled" : Str) = some Lb.df__law_scaled) (f : P.defs.lookup ("_law_some_table" : Str) = some Lb.df__law_some_table) (hm : m ≤ 3) (hn : n ≤ 12) (h : p.Ok) (hc : p.ct < 2 ^ 34) :
    ∃ (F : Nat → Nat → Rat) (q : Pen), callN P (k + 5) "_law_some_table" [.cel 0, .int m, .int n] L (p.c :: S) = some (.ok (.val (tD m n F)), q.c :: S) ∧ q.Ok ∧ q.ct ≤ p.ct + 300 ∧ ∀ i < m, ∀ j < n, Rb 15 (F i j) := by
  obtain ⟨s', r, J⟩ := for_rng (t := [4]) (one := true) (body := sL (ev P (callN P (k + 4)) 59) stBody) (enc := fun i => .int (i : Nat)) (n := m)
    (s := ⟨[.val (.cel 0), .val (.int m), .val (.int n), .own ((List.range 0).map fun r => rD n fun _ => 0), .un, .un, .un, .un, .un, .un], p.c :: S, L⟩)
    (fun i s => ∃ (F : Nat → Nat → Rat) (q : Pen) (e4 e5 e6 e7 e8 e9 : Bd), s = ⟨[.val (.cel 0), .val (.int m), .val (.int n), .own ((List.range i).map fun r => rD n (F r)), e4, e5, e6, e7, e8, e9], q.c :: S, L⟩ ∧ q.Ok ∧ q.ct ≤ p.ct + 100 * i ∧ (∀ r < i, ∀ j < n, Rb (Bn r) (F r j)) ∧ Nl e4 ∧ Nl e5 ∧ Nl e6 ∧ Nl e7 ∧ Nl e8 ∧ Nl e9)
    ⟨fun _ _ => 0, p, .un, .un, .un, .un, .un, .un, rfl, h, by omega, fun r hr => absurd hr (by omega), .u, .u, .u, .u, .u, .u⟩ (fun i s hi ⟨F, q, e4, e5, e6, e7, e8, e9, e, q1, q2, q3, h4, h5, h6, h7, h8, h9⟩ => by
      subst e
      obtain ⟨x, q5, f5, f6, f7, f8, r5, o5, c5, b5, m5, m6, m7, m8⟩ := st_lap (P := P) (k := k) (i := i) (n := n) (F := F) (p := q) (d1 := .int m) (dk := .int (i : Nat)) L S H HA fr fz fa fs hn (by omega) q1 (by omega) q3 h4 h5 h6 h7 h8 h9
      rw [row_snoc (F := F)] at r5
      refine ⟨_, r5, fun r => if r < i then F r else x, q5, _, _, _, _, _, _, rfl, o5, by omega, fun r hr j hj => ?_, .v, m5, m6, m7, m8, h9⟩
      show Rb (Bn r) ((if r < i then F r else x) j)
      by_cases hr2 : r < i
      · rw [if_pos hr2]
        exact q3 r hr2 j hj
      · rw [if_neg hr2, show r = i by omega]
        exact b5 j hj)
  obtain ⟨F, q, e4, e5, e6, e7, e8, e9, rfl, q1, q2, q3, _⟩ := J
  refine ⟨F, q, call_rt f rfl ?_, q1, by omega, fun i hi j hj => (q3 i hi j hj).mono (by unfold Bn; split; decide; split; decide; decide)⟩
  simp only [Lb.df__law_some_table, H.af, ↓Z, Vl, VC, ↓ZL, ↓ZC, ↓reduceIte, Nat.reduceAdd, Nat.reduceSub, q_i0, q_i1, zipR, z_kok, z_ret, eq_self, decide_true, decide_false, Bool.not_true, Bool.not_false, len_r, List.length_range, List.length_map, s6N (show m ≤ 1000 by omega), Int.toNat_natCast, range_map, ↓z_lend0]
  rw [z_run (show forL [4] true _ _ ⟨[.val (.cel 0), .val (.int m), .val (.int n), .own [], .un, .un, .un, .un, .un, .un], p.c :: S, L⟩ = _ from r)]
  simp only [↓Z, Vl, VC, ↓ZL, ↓ZC, ↓reduceIte, Nat.reduceAdd, Nat.reduceSub, q_i0, q_i1, zipR, z_kok, z_ret, eq_self, decide_true, decide_false, Bool.not_true, Bool.not_false, len_r, List.length_range, List.length_map]
end Rf
namespace K12
open PySem PySem.Spec PyProof.Rows L2 Rf
def lamL : List (Arguments × Expr × Scope) := lamsOf (defBody st_law)
abbrev la_0 : Arguments × Expr × Scope := lamL.getD 0 noLam
abbrev la_1 : Arguments × Expr × Scope := lamL.getD 1 noLam
abbrev la_2 : Arguments × Expr × Scope := lamL.getD 2 noLam
abbrev la_3 : Arguments × Expr × Scope := lamL.getD 3 noLam
abbrev la_4 : Arguments × Expr × Scope := lamL.getD 4 noLam
abbrev la_5 : Arguments × Expr × Scope := lamL.getD 5 noLam
abbrev la_6 : Arguments × Expr × Scope := lamL.getD 6 noLam
abbrev la_7 : Arguments × Expr × Scope := lamL.getD 7 noLam
abbrev la_8 : Arguments × Expr × Scope := lamL.getD 8 noLam
abbrev la_9 : Arguments × Expr × Scope := lamL.getD 9 noLam
abbrev la_10 : Arguments × Expr × Scope := lamL.getD 10 noLam
abbrev la_11 : Arguments × Expr × Scope := lamL.getD 11 noLam
abbrev la_12 : Arguments × Expr × Scope := lamL.getD 12 noLam
def lms : Lms := ([("<lambda>0", la_0), ("<lambda>1", la_1), ("<lambda>2", la_2), ("<lambda>3", la_3), ("<lambda>4", la_4), ("<lambda>5", la_5), ("<lambda>6", la_6), ("<lambda>7", la_7), ("<lambda>8", la_8), ("<lambda>9", la_9), ("<lambda>10", la_10), ("<lambda>11", la_11)] : List (Str × Arguments × Expr × Scope)) ++ ([("<lambda>12", la_12)] : List (Str × Arguments × Expr × Scope))
theorem lms_ne : lms ≠ [] := fun z => nomatch z
theorem lk_lam0 : lms.lookup ("<lambda>0" : Str) = some la_0 := rfl
theorem lk_lam1 : lms.lookup ("<lambda>1" : Str) = some la_1 := rfl
theorem lk_lam2 : lms.lookup ("<lambda>2" : Str) = some la_2 := rfl
theorem lk_lam3 : lms.lookup ("<lambda>3" : Str) = some la_3 := rfl
theorem lk_lam4 : lms.lookup ("<lambda>4" : Str) = some la_4 := rfl
theorem lk_lam5 : lms.lookup ("<lambda>5" : Str) = some la_5 := rfl
theorem lk_lam6 : lms.lookup ("<lambda>6" : Str) = some la_6 := rfl
theorem lk_lam7 : lms.lookup ("<lambda>7" : Str) = some la_7 := rfl
theorem lk_lam8 : lms.lookup ("<lambda>8" : Str) = some la_8 := rfl
theorem lk_lam9 : lms.lookup ("<lambda>9" : Str) = some la_9 := rfl
theorem lk_lam10 : lms.lookup ("<lambda>10" : Str) = some la_10 := rfl
theorem lk_lam11 : lms.lookup ("<lambda>11" : Str) = some la_11 := rfl
theorem lk_lam12 : lms.lookup ("<lambda>12" : Str) = some la_12 := rfl
section
variable {Pr : Program} {w : World} {K : PySem.W.Frag} {mg : Str → Option Value} {base : Heap} {k : Nat} {T : Tbs} {f c : Addr} {cd : Value} {A : Around} {outer : List Env} {s : Shared} {H : Hp} {E : XK} {qu : Str} {cl : List (Str × Addr)}
abbrev X_is_whole (Pr : Program) (w : World) (K : PySem.W.Frag) (mg : Str → Option Value) (base : Heap) (f : Addr) (cd : Value) (A : Around) (outer : List Env) (s : Shared) (H : Hp) (E : XK) : Cx := cxG Pr w K mg base N_is_whole "is_whole" (defScope st_is_whole) f cd A outer s H E
theorem d_is_whole (ml : LmsOk Pr w K mg PP T) (o : XS PP k T (X_is_whole Pr w K mg base f cd A outer s H E) (fun cls d _ H2 => E cls d H2)) : SSs PP k T (X_is_whole Pr w K mg base f cd A outer s H E) (fun cls d _ H2 => E cls d H2) (defBody st_is_whole) df_is_whole.body :=
  (sss_cons (ss_ret (se_and (se_isi1 (o.o.fr _ fr_isinstance) (o.o.fr _ fr_int) (sp_var 0)) (se_one (se_nt (sp_of (se_isi1 (o.o.fr _ fr_isinstance) (o.o.fr _ fr_bool) (sp_var 0))))))) sss_nil)
abbrev X_in_tuples (Pr : Program) (w : World) (K : PySem.W.Frag) (mg : Str → Option Value) (base : Heap) (f : Addr) (cd : Value) (A : Around) (outer : List Env) (s : Shared) (H : Hp) (E : XK) : Cx := cxG Pr w K mg base N_in_tuples "in_tuples" (defScope st_in_tuples) f cd A outer s H E
theorem d_in_tuples (ml : LmsOk Pr w K mg PP T) (o : XS PP k T (X_in_tuples Pr w K mg base f cd A outer s H E) (fun cls d _ H2 => E cls d H2)) : SSs PP k T (X_in_tuples Pr w K mg base f cd A outer s H E) (fun cls d _ H2 => E cls d H2) (defBody st_in_tuples) df_in_tuples.body :=
  (sss_cons (ss_if (st_nt (st_tru (sp_of (se_isi2 (o.o.fr _ fr_isinstance) (o.o.fr _ fr_tuple) (o.o.fr _ fr_list) (sp_var 0))))) (sss_cons (ss_retv 0) sss_nil) sss_nil) (sss_cons (ss_ret (se_biT biTuple (o.o.fr _ fr_tuple) (sps_cons (sp_of (se_lc o.o (⟨(si_sq (sp_var 0)), blkOk_by (own := [("item", 1)]) (by kernel_rfl), fun _ _ _ _ _ o1 => (pg1 1 o1.nd), fun _ _ _ _ _ o1 => sif_nil, fun _ _ _ _ _ o1 => (se_call o1 lk_in_tuples (sa_cons (se_var 1) sa_nil)), by decide, by intro _; rfl⟩))) sps_nil))) sss_nil))
abbrev X_need_between (Pr : Program) (w : World) (K : PySem.W.Frag) (mg : Str → Option Value) (base : Heap) (f : Addr) (cd : Value) (A : Around) (outer : List Env) (s : Shared) (H : Hp) (E : XK) : Cx := cxG Pr w K mg base N_need_between "need_between" (defScope st_need_between) f cd A outer s H E
theorem d_need_between (ml : LmsOk Pr w K mg PP T) (o : XS PP k T (X_need_between Pr w K mg base f cd A outer s H E) (fun cls d _ H2 => E cls d H2)) : SSs PP k T (X_need_between Pr w K mg base f cd A outer s H E) (fun cls d _ H2 => E cls d H2) (defBody st_need_between) df_need_between.body :=
  (sss_cons (ss_if (st_nt (st_tru (sp_of (se_call o.o lk_is_whole (sa_cons (se_var 1) sa_nil))))) (sss_cons (ss_rse o.o ex_BadNumber (sa_cons (se_var 0) (sa_cons (se_var 1) sa_nil))) sss_nil) sss_nil) (sss_cons (ss_if (st_bool (sw_or (st_bool (sw_and (st_cmp opIsN (sp_var 2) (sp_of se_non)) (sw_and1 (st_cmp opLt (sp_var 1) (sp_var 2))))) (sw_or1 (st_bool (sw_and (st_cmp opIsN (sp_var 3) (sp_of se_non)) (sw_and1 (st_cmp opGt (sp_var 1) (sp_var 3)))))))) (sss_cons (ss_rse o.o ex_BadNumber (sa_cons (se_var 0) (sa_cons (se_var 1) sa_nil))) sss_nil) sss_nil) sss_nil))
abbrev X_is_pair (Pr : Program) (w : World) (K : PySem.W.Frag) (mg : Str → Option Value) (base : Heap) (f : Addr) (cd : Value) (A : Around) (outer : List Env) (s : Shared) (H : Hp) (E : XK) : Cx := cxG Pr w K mg base N_is_pair "is_pair" (defScope st_is_pair) f cd A outer s H E
theorem d_is_pair (ml : LmsOk Pr w K mg PP T) (o : XS PP k T (X_is_pair Pr w K mg base f cd A outer s H E) (fun cls d _ H2 => E cls d H2)) : SSs PP k T (X_is_pair Pr w K mg base f cd A outer s H E) (fun cls d _ H2 => E cls d H2) (defBody st_is_pair) df_is_pair.body :=
  (sss_cons (ss_if (st_bool (sw_or (st_nt (st_tru (sp_of (se_isi2 (o.o.fr _ fr_isinstance) (o.o.fr _ fr_tuple) (o.o.fr _ fr_list) (sp_var 0))))) (sw_or1 (st_cmp (opNe o.o.hu) (sp_of (se_bi biLen (o.o.fr _ fr_len) (sps_cons (sp_var 0) sps_nil))) (sp_of se_int))))) (sss_cons (ss_ret se_bl) sss_nil) sss_nil) (sss_cons (ss_ret (se_and (se_call o.o lk_is_whole (sa_cons (se_idx (sp_var 0) se_int) sa_nil)) (se_and (se_call o.o lk_is_whole (sa_cons (se_idx (sp_var 0) se_int) sa_nil)) (se_one (se_cmp opGt (sp_of (se_idx (sp_var 0) se_int)) (sp_of se_int)))))) sss_nil))
abbrev X_is_ratio (Pr : Program) (w : World) (K : PySem.W.Frag) (mg : Str → Option Value) (base : Heap) (f : Addr) (cd : Value) (A : Around) (outer : List Env) (s : Shared) (H : Hp) (E : XK) : Cx := cxG Pr w K mg base N_is_ratio "is_ratio" (defScope st_is_ratio) f cd A outer s H E
theorem d_is_ratio (ml : LmsOk Pr w K mg PP T) (o : XS PP k T (X_is_ratio Pr w K mg base f cd A outer s H E) (fun cls d _ H2 => E cls d H2)) : SSs PP k T (X_is_ratio Pr w K mg base f cd A outer s H E) (fun cls d _ H2 => E cls d H2) (defBody st_is_ratio) df_is_ratio.body :=
  (sss_cons (ss_ret (se_or (se_call o.o lk_is_whole (sa_cons (se_var 0) sa_nil)) (se_one (se_and (se_isi1 (o.o.fr _ fr_isinstance) (o.o.fr _ fr_tuple) (sp_var 0)) (se_one (se_call o.o lk_is_pair (sa_cons (se_var 0) sa_nil))))))) sss_nil)
abbrev X_lowest (Pr : Program) (w : World) (K : PySem.W.Frag) (mg : Str → Option Value) (base : Heap) (f : Addr) (cd : Value) (A : Around) (outer : List Env) (s : Shared) (H : Hp) (E : XK) : Cx := cxG Pr w K mg base N_lowest "lowest" (defScope st_lowest) f cd A outer s H E
theorem d_lowest (ml : LmsOk Pr w K mg PP T) (o : XS PP k T (X_lowest Pr w K mg base f cd A outer s H E) (fun cls d _ H2 => E cls d H2)) : SSs PP k T (X_lowest Pr w K mg base f cd A outer s H E) (fun cls d _ H2 => E cls d H2) (defBody st_lowest) df_lowest.body :=
  (sss_cons (ss_set 2 o.o.nd (se_ite (st_cmp opGt (sp_var 1) (sp_of se_int)) (se_biF biGcd (o.o.bf _ _ bf_gcd) (sps_cons (sp_var 0) (sps_cons (sp_var 1) sps_nil))) (se_neg (se_biF biGcd (o.o.bf _ _ bf_gcd) (sps_cons (sp_var 0) (sps_cons (sp_var 1) sps_nil)))))) (sss_cons (ss_ret (se_tup (sa_cons (se_bin opDiv (sp_var 0) (sp_var 2)) (sa_cons (se_bin opDiv (sp_var 1) (sp_var 2)) sa_nil)))) sss_nil))
abbrev X_told (Pr : Program) (w : World) (K : PySem.W.Frag) (mg : Str → Option Value) (base : Heap) (f : Addr) (cd : Value) (A : Around) (outer : List Env) (s : Shared) (H : Hp) (E : XK) : Cx := cxG Pr w K mg base N_told "told" (defScope st_told) f cd A outer s H E
theorem d_told (ml : LmsOk Pr w K mg PP T) (o : XS PP k T (X_told Pr w K mg base f cd A outer s H E) (fun cls d _ H2 => E cls d H2)) : SSs PP k T (X_told Pr w K mg base f cd A outer s H E) (fun cls d _ H2 => E cls d H2) (defBody st_told) df_told.body :=
  (sss_cons (ss_if (st_tru (sp_of (se_call o.o lk_is_whole (sa_cons (se_var 0) sa_nil)))) (sss_cons (ss_ret (se_tup (sa_cons (se_var 0) (sa_cons se_int sa_nil)))) sss_nil) sss_nil) (sss_cons (ss_if (st_nt (st_tru (sp_of (se_call o.o lk_is_pair (sa_cons (se_var 0) sa_nil))))) (sss_cons (ss_rse o.o ex_BadRow (sa_cons (se_var 0) sa_nil)) sss_nil) sss_nil) (sss_cons (ss_ret (se_call o.o lk_lowest (sa_cons (se_idx (sp_var 0) se_int) (sa_cons (se_idx (sp_var 0) se_int) sa_nil)))) sss_nil)))
abbrev X_summed (Pr : Program) (w : World) (K : PySem.W.Frag) (mg : Str → Option Value) (base : Heap) (f : Addr) (cd : Value) (A : Around) (outer : List Env) (s : Shared) (H : Hp) (E : XK) : Cx := cxG Pr w K mg base N_summed "summed" (defScope st_summed) f cd A outer s H E
theorem d_summed (ml : LmsOk Pr w K mg PP T) (o : XS PP k T (X_summed Pr w K mg base f cd A outer s H E) (fun cls d _ H2 => E cls d H2)) : SSs PP k T (X_summed Pr w K mg base f cd A outer s H E) (fun cls d _ H2 => E cls d H2) (defBody st_summed) df_summed.body :=
  (sss_cons (ss_ret (se_call o.o lk_lowest (sa_cons (se_bin opAdd (sp_of (se_bin opMul (sp_of (se_idx (sp_var 0) se_int)) (sp_of (se_idx (sp_var 1) se_int)))) (sp_of (se_bin opMul (sp_of (se_idx (sp_var 1) se_int)) (sp_of (se_idx (sp_var 0) se_int))))) (sa_cons (se_bin opMul (sp_of (se_idx (sp_var 0) se_int)) (sp_of (se_idx (sp_var 1) se_int))) sa_nil)))) sss_nil)
abbrev X_scaled (Pr : Program) (w : World) (K : PySem.W.Frag) (mg : Str → Option Value) (base : Heap) (f : Addr) (cd : Value) (A : Around) (outer : List Env) (s : Shared) (H : Hp) (E : XK) : Cx := cxG Pr w K mg base N_scaled "scaled" (defScope st_scaled) f cd A outer s H E
theorem d_scaled (ml : LmsOk Pr w K mg PP T) (o : XS PP k T (X_scaled Pr w K mg base f cd A outer s H E) (fun cls d _ H2 => E cls d H2)) : SSs PP k T (X_scaled Pr w K mg base f cd A outer s H E) (fun cls d _ H2 => E cls d H2) (defBody st_scaled) df_scaled.body :=
  (sss_cons (ss_ret (se_call o.o lk_lowest (sa_cons (se_bin opMul (sp_of (se_idx (sp_var 0) se_int)) (sp_of (se_idx (sp_var 1) se_int))) (sa_cons (se_bin opMul (sp_of (se_idx (sp_var 0) se_int)) (sp_of (se_idx (sp_var 1) se_int))) sa_nil)))) sss_nil)
abbrev X_is_loose_row (Pr : Program) (w : World) (K : PySem.W.Frag) (mg : Str → Option Value) (base : Heap) (f : Addr) (cd : Value) (A : Around) (outer : List Env) (s : Shared) (H : Hp) (E : XK) : Cx := cxG Pr w K mg base N_is_loose_row "is_loose_row" (defScope st_is_loose_row) f cd A outer s H E
theorem d_is_loose_row (ml : LmsOk Pr w K mg PP T) (o : XS PP k T (X_is_loose_row Pr w K mg base f cd A outer s H E) (fun cls d _ H2 => E cls d H2)) : SSs PP k T (X_is_loose_row Pr w K mg base f cd A outer s H E) (fun cls d _ H2 => E cls d H2) (defBody st_is_loose_row) df_is_loose_row.body :=
  (sss_cons (ss_ret (se_and (se_isi1 (o.o.fr _ fr_isinstance) (o.o.fr _ fr_tuple) (sp_var 0)) (se_one (se_bi (biAll o.o.calm) (o.o.fr _ fr_all) (sps_cons (sp_of (se_lc o.o (⟨(si_sq (sp_var 0)), blkOk_by (own := [("item", 1)]) (by kernel_rfl), fun _ _ _ _ _ o1 => (pg1 1 o1.nd), fun _ _ _ _ _ o1 => sif_nil, fun _ _ _ _ _ o1 => (se_call o1 lk_is_ratio (sa_cons (se_var 1) sa_nil)), by decide, by intro _; rfl⟩))) sps_nil))))) sss_nil)
abbrev X_table_or_none (Pr : Program) (w : World) (K : PySem.W.Frag) (mg : Str → Option Value) (base : Heap) (f : Addr) (cd : Value) (A : Around) (outer : List Env) (s : Shared) (H : Hp) (E : XK) : Cx := cxG Pr w K mg base N_table_or_none "table_or_none" (defScope st_table_or_none) f cd A outer s H E
theorem d_table_or_none (ml : LmsOk Pr w K mg PP T) (o : XS PP k T (X_table_or_none Pr w K mg base f cd A outer s H E) (fun cls d _ H2 => E cls d H2)) : SSs PP k T (X_table_or_none Pr w K mg base f cd A outer s H E) (fun cls d _ H2 => E cls d H2) (defBody st_table_or_none) df_table_or_none.body :=
  (sss_cons (ss_set 1 o.o.nd (se_call o.o lk_in_tuples (sa_cons (se_var 0) sa_nil))) (sss_cons (ss_if (st_bool (sw_or (st_nt (st_tru (sp_of (se_isi1 (o.o.fr _ fr_isinstance) (o.o.fr _ fr_tuple) (sp_var 1))))) (sw_or (st_cmp opGt (sp_of (se_bi biLen (o.o.fr _ fr_len) (sps_cons (sp_var 1) sps_nil))) (sp_of (se_glb (o.o.gl _ _ gl_MOST_SIZE)))) (sw_or1 (st_nt (st_tru (sp_of (se_bi (biAll o.o.calm) (o.o.fr _ fr_all) (sps_cons (sp_of (se_lc o.o (⟨(si_sq (sp_var 1)), blkOk_by (own := [("row", 2)]) (by kernel_rfl), fun _ _ _ _ _ o1 => (pg1 2 o1.nd), fun _ _ _ _ _ o1 => sif_nil, fun _ _ _ _ _ o1 => (se_call o1 lk_is_loose_row (sa_cons (se_var 2) sa_nil)), by decide, by intro _; rfl⟩))) sps_nil))))))))) (sss_cons (ss_ret se_non) sss_nil) sss_nil) (sss_cons (ss_if (st_bool (sw_and (st_cmp opGt (sp_of (se_bi biLen (o.o.fr _ fr_len) (sps_cons (sp_var 1) sps_nil))) (sp_of se_int)) (sw_and1 (st_bool (sw_or (st_cmp opGt (sp_of (se_bi biLen (o.o.fr _ fr_len) (sps_cons (sp_of (se_idx (sp_var 1) se_int)) sps_nil))) (sp_of (se_glb (o.o.gl _ _ gl_MOST_SIZE)))) (sw_or1 (st_nt (st_tru (sp_of (se_bi (biAll o.o.calm) (o.o.fr _ fr_all) (sps_cons (sp_of (se_lc o.o (⟨(si_sq (sp_var 1)), blkOk_by (own := [("row", 2)]) (by kernel_rfl), fun _ _ _ _ _ o2 => (pg1 2 o2.nd), fun _ _ _ _ _ o2 => sif_nil, fun _ _ _ _ _ o2 => (se_cmp (opEq o2.hu) (sp_of (se_bi biLen (o2.fr _ fr_len) (sps_cons (sp_var 2) sps_nil))) (sp_of (se_bi biLen (o2.fr _ fr_len) (sps_cons (sp_of (se_idx (sp_var 1) se_int)) sps_nil)))), by decide, by intro _; rfl⟩))) sps_nil))))))))))) (sss_cons (ss_ret se_non) sss_nil) sss_nil) (sss_cons (ss_ret (se_biT biTuple (o.o.fr _ fr_tuple) (sps_cons (sp_of (se_lc o.o (⟨(si_sq (sp_var 1)), blkOk_by (own := [("row", 2)]) (by kernel_rfl), fun _ _ _ _ _ o3 => (pg1 2 o3.nd), fun _ _ _ _ _ o3 => sif_nil, fun _ _ _ _ _ o3 => (se_biT biTuple (o3.fr _ fr_tuple) (sps_cons (sp_of (se_lc o3 (⟨(si_sq (sp_var 2)), blkOk_by (own := [("item", 3)]) (by kernel_rfl), fun _ _ _ _ _ o4 => (pg1 3 o4.nd), fun _ _ _ _ _ o4 => sif_nil, fun _ _ _ _ _ o4 => (se_call o4 lk_told (sa_cons (se_var 3) sa_nil)), by decide, by intro _; rfl⟩))) sps_nil)), by decide, by intro _; rfl⟩))) sps_nil))) sss_nil))))
abbrev X_table_from (Pr : Program) (w : World) (K : PySem.W.Frag) (mg : Str → Option Value) (base : Heap) (f : Addr) (cd : Value) (A : Around) (outer : List Env) (s : Shared) (H : Hp) (E : XK) : Cx := cxG Pr w K mg base N_table_from "table_from" (defScope st_table_from) f cd A outer s H E
theorem d_table_from (ml : LmsOk Pr w K mg PP T) (o : XS PP k T (X_table_from Pr w K mg base f cd A outer s H E) (fun cls d _ H2 => E cls d H2)) : SSs PP k T (X_table_from Pr w K mg base f cd A outer s H E) (fun cls d _ H2 => E cls d H2) (defBody st_table_from) df_table_from.body :=
  (sss_cons (ss_set 1 o.o.nd (se_call o.o lk_table_or_none (sa_cons (se_var 0) sa_nil))) (sss_cons (ss_if (st_cmp opIs (sp_var 1) (sp_of se_non)) (sss_cons (ss_rse o.o ex_BadTable (sa_cons (se_var 0) sa_nil)) sss_nil) sss_nil) (sss_cons (ss_retv 1) sss_nil)))
abbrev X_two_from (Pr : Program) (w : World) (K : PySem.W.Frag) (mg : Str → Option Value) (base : Heap) (f : Addr) (cd : Value) (A : Around) (outer : List Env) (s : Shared) (H : Hp) (E : XK) : Cx := cxG Pr w K mg base N_two_from "two_from" (defScope st_two_from) f cd A outer s H E
theorem d_two_from (ml : LmsOk Pr w K mg PP T) (o : XS PP k T (X_two_from Pr w K mg base f cd A outer s H E) (fun cls d _ H2 => E cls d H2)) : SSs PP k T (X_two_from Pr w K mg base f cd A outer s H E) (fun cls d _ H2 => E cls d H2) (defBody st_two_from) df_two_from.body :=
  (sss_cons (ss_set 2 o.o.nd (se_call o.o lk_table_from (sa_cons (se_var 0) sa_nil))) (sss_cons (ss_ret (se_tup (sa_cons (se_var 2) (sa_cons (se_call o.o lk_table_from (sa_cons (se_var 1) sa_nil)) sa_nil)))) sss_nil))
abbrev X_width_of (Pr : Program) (w : World) (K : PySem.W.Frag) (mg : Str → Option Value) (base : Heap) (f : Addr) (cd : Value) (A : Around) (outer : List Env) (s : Shared) (H : Hp) (E : XK) : Cx := cxG Pr w K mg base N_width_of "width_of" (defScope st_width_of) f cd A outer s H E
theorem d_width_of (ml : LmsOk Pr w K mg PP T) (o : XS PP k T (X_width_of Pr w K mg base f cd A outer s H E) (fun cls d _ H2 => E cls d H2)) : SSs PP k T (X_width_of Pr w K mg base f cd A outer s H E) (fun cls d _ H2 => E cls d H2) (defBody st_width_of) df_width_of.body :=
  (sss_cons (ss_ret (se_ite (st_cmp opGt (sp_of (se_bi biLen (o.o.fr _ fr_len) (sps_cons (sp_var 0) sps_nil))) (sp_of se_int)) (se_bi biLen (o.o.fr _ fr_len) (sps_cons (sp_of (se_idx (sp_var 0) se_int)) sps_nil)) se_int)) sss_nil)
abbrev X_need_like (Pr : Program) (w : World) (K : PySem.W.Frag) (mg : Str → Option Value) (base : Heap) (f : Addr) (cd : Value) (A : Around) (outer : List Env) (s : Shared) (H : Hp) (E : XK) : Cx := cxG Pr w K mg base N_need_like "need_like" (defScope st_need_like) f cd A outer s H E
theorem d_need_like (ml : LmsOk Pr w K mg PP T) (o : XS PP k T (X_need_like Pr w K mg base f cd A outer s H E) (fun cls d _ H2 => E cls d H2)) : SSs PP k T (X_need_like Pr w K mg base f cd A outer s H E) (fun cls d _ H2 => E cls d H2) (defBody st_need_like) df_need_like.body :=
  (sss_cons (ss_if (st_bool (sw_or (st_cmp (opNe o.o.hu) (sp_of (se_bi biLen (o.o.fr _ fr_len) (sps_cons (sp_var 0) sps_nil))) (sp_of (se_bi biLen (o.o.fr _ fr_len) (sps_cons (sp_var 1) sps_nil)))) (sw_or1 (st_cmp (opNe o.o.hu) (sp_of (se_call o.o lk_width_of (sa_cons (se_var 0) sa_nil))) (sp_of (se_call o.o lk_width_of (sa_cons (se_var 1) sa_nil))))))) (sss_cons (ss_rse o.o ex_Unlike (sa_cons se_str sa_nil)) sss_nil) sss_nil) sss_nil)
abbrev X_is_square (Pr : Program) (w : World) (K : PySem.W.Frag) (mg : Str → Option Value) (base : Heap) (f : Addr) (cd : Value) (A : Around) (outer : List Env) (s : Shared) (H : Hp) (E : XK) : Cx := cxG Pr w K mg base N_is_square "is_square" (defScope st_is_square) f cd A outer s H E
theorem d_is_square (ml : LmsOk Pr w K mg PP T) (o : XS PP k T (X_is_square Pr w K mg base f cd A outer s H E) (fun cls d _ H2 => E cls d H2)) : SSs PP k T (X_is_square Pr w K mg base f cd A outer s H E) (fun cls d _ H2 => E cls d H2) (defBody st_is_square) df_is_square.body :=
  (sss_cons (ss_ret (se_cmp (opEq o.o.hu) (sp_of (se_bi biLen (o.o.fr _ fr_len) (sps_cons (sp_var 0) sps_nil))) (sp_of (se_call o.o lk_width_of (sa_cons (se_var 0) sa_nil))))) sss_nil)
abbrev X_square_from (Pr : Program) (w : World) (K : PySem.W.Frag) (mg : Str → Option Value) (base : Heap) (f : Addr) (cd : Value) (A : Around) (outer : List Env) (s : Shared) (H : Hp) (E : XK) : Cx := cxG Pr w K mg base N_square_from "square_from" (defScope st_square_from) f cd A outer s H E
theorem d_square_from (ml : LmsOk Pr w K mg PP T) (o : XS PP k T (X_square_from Pr w K mg base f cd A outer s H E) (fun cls d _ H2 => E cls d H2)) : SSs PP k T (X_square_from Pr w K mg base f cd A outer s H E) (fun cls d _ H2 => E cls d H2) (defBody st_square_from) df_square_from.body :=
  (sss_cons (ss_set 1 o.o.nd (se_call o.o lk_table_from (sa_cons (se_var 0) sa_nil))) (sss_cons (ss_if (st_nt (st_tru (sp_of (se_call o.o lk_is_square (sa_cons (se_var 1) sa_nil))))) (sss_cons (ss_rse o.o ex_Unlike (sa_cons se_str sa_nil)) sss_nil) sss_nil) (sss_cons (ss_retv 1) sss_nil)))
abbrev X_ratio_from (Pr : Program) (w : World) (K : PySem.W.Frag) (mg : Str → Option Value) (base : Heap) (f : Addr) (cd : Value) (A : Around) (outer : List Env) (s : Shared) (H : Hp) (E : XK) : Cx := cxG Pr w K mg base N_ratio_from "ratio_from" (defScope st_ratio_from) f cd A outer s H E
theorem d_ratio_from (ml : LmsOk Pr w K mg PP T) (o : XS PP k T (X_ratio_from Pr w K mg base f cd A outer s H E) (fun cls d _ H2 => E cls d H2)) : SSs PP k T (X_ratio_from Pr w K mg base f cd A outer s H E) (fun cls d _ H2 => E cls d H2) (defBody st_ratio_from) df_ratio_from.body :=
  (sss_cons (ss_set 2 o.o.nd (se_call o.o lk_in_tuples (sa_cons (se_var 1) sa_nil))) (sss_cons (ss_if (st_nt (st_tru (sp_of (se_call o.o lk_is_ratio (sa_cons (se_var 2) sa_nil))))) (sss_cons (ss_rse o.o ex_BadNumber (sa_cons (se_var 0) (sa_cons (se_var 1) sa_nil))) sss_nil) sss_nil) (sss_cons (ss_ret (se_call o.o lk_told (sa_cons (se_var 2) sa_nil))) sss_nil)))
abbrev X_row_plus (Pr : Program) (w : World) (K : PySem.W.Frag) (mg : Str → Option Value) (base : Heap) (f : Addr) (cd : Value) (A : Around) (outer : List Env) (s : Shared) (H : Hp) (E : XK) : Cx := cxG Pr w K mg base N_row_plus "row_plus" (defScope st_row_plus) f cd A outer s H E
theorem d_row_plus (ml : LmsOk Pr w K mg PP T) (o : XS PP k T (X_row_plus Pr w K mg base f cd A outer s H E) (fun cls d _ H2 => E cls d H2)) : SSs PP k T (X_row_plus Pr w K mg base f cd A outer s H E) (fun cls d _ H2 => E cls d H2) (defBody st_row_plus) df_row_plus.body :=
  (sss_cons (ss_if (st_cmp (opEq o.o.hu) (sp_of (se_idx (sp_var 1) se_int)) (sp_of se_int)) (sss_cons (ss_ret (se_biT biTuple (o.o.fr _ fr_tuple) (sps_cons (sp_var 0) sps_nil))) sss_nil) sss_nil) (sss_cons (ss_ret (se_biT biTuple (o.o.fr _ fr_tuple) (sps_cons (sp_of (se_lc o.o (⟨(si_zip (o.o.fr _ fr_zip) (sp_var 0) (sp_var 2)), blkOk_by (own := [("a", 3), ("b", 4)]) (by kernel_rfl), fun _ _ _ _ _ o1 => (pgT o1.calm (pgn_cons 3 o1.nd (pgn_cons 4 o1.nd pgn_nil))), fun _ _ _ _ _ o1 => sif_nil, fun _ _ _ _ _ o1 => (se_ite (st_cmp (opEq o1.hu) (sp_of (se_idx (sp_var 4) se_int)) (sp_of se_int)) (se_var 3) (se_call o1 lk_summed (sa_cons (se_var 3) (sa_cons (se_call o1 lk_scaled (sa_cons (se_var 1) (sa_cons (se_var 4) sa_nil))) sa_nil)))), by decide, by intro _; rfl⟩))) sps_nil))) sss_nil))
abbrev X_sum_by (Pr : Program) (w : World) (K : PySem.W.Frag) (mg : Str → Option Value) (base : Heap) (f : Addr) (cd : Value) (A : Around) (outer : List Env) (s : Shared) (H : Hp) (E : XK) : Cx := cxG Pr w K mg base N_sum_by "sum_by" (defScope st_sum_by) f cd A outer s H E
theorem d_sum_by (ml : LmsOk Pr w K mg PP T) (o : XS PP k T (X_sum_by Pr w K mg base f cd A outer s H E) (fun cls d _ H2 => E cls d H2)) : SSs PP k T (X_sum_by Pr w K mg base f cd A outer s H E) (fun cls d _ H2 => E cls d H2) (defBody st_sum_by) df_sum_by.body :=
  (sss_cons (ss_ret (se_biT biTuple (o.o.fr _ fr_tuple) (sps_cons (sp_of (se_lc o.o (⟨(si_zip (o.o.fr _ fr_zip) (sp_var 0) (sp_var 1)), blkOk_by (own := [("a", 2), ("b", 3)]) (by kernel_rfl), fun _ _ _ _ _ o1 => (pgT o1.calm (pgn_cons 2 o1.nd (pgn_cons 3 o1.nd pgn_nil))), fun _ _ _ _ _ o1 => sif_nil, fun _ _ _ _ _ o1 => (se_call o1 lk_row_plus (sa_cons (se_var 2) (sa_cons (se_glb (o1.gl _ _ gl_ONE)) (sa_cons (se_var 3) sa_nil)))), by decide, by intro _; rfl⟩))) sps_nil))) sss_nil)
abbrev X_less_by (Pr : Program) (w : World) (K : PySem.W.Frag) (mg : Str → Option Value) (base : Heap) (f : Addr) (cd : Value) (A : Around) (outer : List Env) (s : Shared) (H : Hp) (E : XK) : Cx := cxG Pr w K mg base N_less_by "less_by" (defScope st_less_by) f cd A outer s H E
theorem d_less_by (ml : LmsOk Pr w K mg PP T) (o : XS PP k T (X_less_by Pr w K mg base f cd A outer s H E) (fun cls d _ H2 => E cls d H2)) : SSs PP k T (X_less_by Pr w K mg base f cd A outer s H E) (fun cls d _ H2 => E cls d H2) (defBody st_less_by) df_less_by.body :=
  (sss_cons (ss_ret (se_biT biTuple (o.o.fr _ fr_tuple) (sps_cons (sp_of (se_lc o.o (⟨(si_zip (o.o.fr _ fr_zip) (sp_var 0) (sp_var 1)), blkOk_by (own := [("a", 2), ("b", 3)]) (by kernel_rfl), fun _ _ _ _ _ o1 => (pgT o1.calm (pgn_cons 2 o1.nd (pgn_cons 3 o1.nd pgn_nil))), fun _ _ _ _ _ o1 => sif_nil, fun _ _ _ _ _ o1 => (se_call o1 lk_row_plus (sa_cons (se_var 2) (sa_cons (se_tup (sa_cons (se_neg se_int) (sa_cons se_int sa_nil))) (sa_cons (se_var 3) sa_nil)))), by decide, by intro _; rfl⟩))) sps_nil))) sss_nil)
abbrev X_table_sum (Pr : Program) (w : World) (K : PySem.W.Frag) (mg : Str → Option Value) (base : Heap) (f : Addr) (cd : Value) (A : Around) (outer : List Env) (s : Shared) (H : Hp) (E : XK) : Cx := cxG Pr w K mg base N_table_sum "table_sum" (defScope st_table_sum) f cd A outer s H E
theorem d_table_sum (ml : LmsOk Pr w K mg PP T) (o : XS PP k T (X_table_sum Pr w K mg base f cd A outer s H E) (fun cls d _ H2 => E cls d H2)) : SSs PP k T (X_table_sum Pr w K mg base f cd A outer s H E) (fun cls d _ H2 => E cls d H2) (defBody st_table_sum) df_table_sum.body :=
  (sss_cons (ss_setT o.o.calm (sgs_cons (sg_nm 2 o.o.nd) (sgs_cons (sg_nm 3 o.o.nd) sgs_nil)) (se_call o.o lk_two_from (sa_cons (se_var 0) (sa_cons (se_var 1) sa_nil)))) (sss_cons (ss_ex (se_call o.o lk_need_like (sa_cons (se_var 2) (sa_cons (se_var 3) sa_nil)))) (sss_cons (ss_ret (se_call o.o lk_sum_by (sa_cons (se_var 2) (sa_cons (se_var 3) sa_nil)))) sss_nil)))
abbrev X_table_less (Pr : Program) (w : World) (K : PySem.W.Frag) (mg : Str → Option Value) (base : Heap) (f : Addr) (cd : Value) (A : Around) (outer : List Env) (s : Shared) (H : Hp) (E : XK) : Cx := cxG Pr w K mg base N_table_less "table_less" (defScope st_table_less) f cd A outer s H E
theorem d_table_less (ml : LmsOk Pr w K mg PP T) (o : XS PP k T (X_table_less Pr w K mg base f cd A outer s H E) (fun cls d _ H2 => E cls d H2)) : SSs PP k T (X_table_less Pr w K mg base f cd A outer s H E) (fun cls d _ H2 => E cls d H2) (defBody st_table_less) df_table_less.body :=
  (sss_cons (ss_setT o.o.calm (sgs_cons (sg_nm 2 o.o.nd) (sgs_cons (sg_nm 3 o.o.nd) sgs_nil)) (se_call o.o lk_two_from (sa_cons (se_var 0) (sa_cons (se_var 1) sa_nil)))) (sss_cons (ss_ex (se_call o.o lk_need_like (sa_cons (se_var 2) (sa_cons (se_var 3) sa_nil)))) (sss_cons (ss_ret (se_call o.o lk_less_by (sa_cons (se_var 2) (sa_cons (se_var 3) sa_nil)))) sss_nil)))
abbrev X_times_by (Pr : Program) (w : World) (K : PySem.W.Frag) (mg : Str → Option Value) (base : Heap) (f : Addr) (cd : Value) (A : Around) (outer : List Env) (s : Shared) (H : Hp) (E : XK) : Cx := cxG Pr w K mg base N_times_by "times_by" (defScope st_times_by) f cd A outer s H E
theorem d_times_by (ml : LmsOk Pr w K mg PP T) (o : XS PP k T (X_times_by Pr w K mg base f cd A outer s H E) (fun cls d _ H2 => E cls d H2)) : SSs PP k T (X_times_by Pr w K mg base f cd A outer s H E) (fun cls d _ H2 => E cls d H2) (defBody st_times_by) df_times_by.body :=
  (sss_cons (ss_ret (se_biT biTuple (o.o.fr _ fr_tuple) (sps_cons (sp_of (se_lc o.o (⟨(si_sq (sp_var 0)), blkOk_by (own := [("row", 2)]) (by kernel_rfl), fun _ _ _ _ _ o1 => (pg1 2 o1.nd), fun _ _ _ _ _ o1 => sif_nil, fun _ _ _ _ _ o1 => (se_biT biTuple (o1.fr _ fr_tuple) (sps_cons (sp_of (se_lc o1 (⟨(si_sq (sp_var 2)), blkOk_by (own := [("item", 3)]) (by kernel_rfl), fun _ _ _ _ _ o2 => (pg1 3 o2.nd), fun _ _ _ _ _ o2 => sif_nil, fun _ _ _ _ _ o2 => (se_call o2 lk_scaled (sa_cons (se_var 3) (sa_cons (se_var 1) sa_nil))), by decide, by intro _; rfl⟩))) sps_nil)), by decide, by intro _; rfl⟩))) sps_nil))) sss_nil)
abbrev X_table_times (Pr : Program) (w : World) (K : PySem.W.Frag) (mg : Str → Option Value) (base : Heap) (f : Addr) (cd : Value) (A : Around) (outer : List Env) (s : Shared) (H : Hp) (E : XK) : Cx := cxG Pr w K mg base N_table_times "table_times" (defScope st_table_times) f cd A outer s H E
theorem d_table_times (ml : LmsOk Pr w K mg PP T) (o : XS PP k T (X_table_times Pr w K mg base f cd A outer s H E) (fun cls d _ H2 => E cls d H2)) : SSs PP k T (X_table_times Pr w K mg base f cd A outer s H E) (fun cls d _ H2 => E cls d H2) (defBody st_table_times) df_table_times.body :=
  (sss_cons (ss_set 2 o.o.nd (se_call o.o lk_table_from (sa_cons (se_var 0) sa_nil))) (sss_cons (ss_ret (se_call o.o lk_times_by (sa_cons (se_var 2) (sa_cons (se_call o.o lk_ratio_from (sa_cons se_str (sa_cons (se_var 1) sa_nil))) sa_nil)))) sss_nil))
abbrev X_mixed_by (Pr : Program) (w : World) (K : PySem.W.Frag) (mg : Str → Option Value) (base : Heap) (f : Addr) (cd : Value) (A : Around) (outer : List Env) (s : Shared) (H : Hp) (E : XK) : Cx := cxG Pr w K mg base N_mixed_by "mixed_by" (defScope st_mixed_by) f cd A outer s H E
theorem d_mixed_by (ml : LmsOk Pr w K mg PP T) (o : XS PP k T (X_mixed_by Pr w K mg base f cd A outer s H E) (fun cls d _ H2 => E cls d H2)) : SSs PP k T (X_mixed_by Pr w K mg base f cd A outer s H E) (fun cls d _ H2 => E cls d H2) (defBody st_mixed_by) df_mixed_by.body :=
  (sss_cons (ss_set 3 o.o.nd (se_bin opMul (sp_of (se_tup (sa_cons (se_glb (o.o.gl _ _ gl_NONE)) sa_nil))) (sp_var 2))) (sss_cons (ss_for o (si_zip (o.o.fr _ fr_zip) (sp_var 0) (sp_var 1)) (pgT o.o.calm (pgn_cons 4 o.o.nd (pgn_cons 5 o.o.nd pgn_nil))) (sss_cons (ss_set 3 o.o.nd (se_call o.o lk_row_plus (sa_cons (se_var 3) (sa_cons (se_var 4) (sa_cons (se_var 5) sa_nil))))) sss_nil)) (sss_cons (ss_retv 3) sss_nil)))
abbrev X_product_by (Pr : Program) (w : World) (K : PySem.W.Frag) (mg : Str → Option Value) (base : Heap) (f : Addr) (cd : Value) (A : Around) (outer : List Env) (s : Shared) (H : Hp) (E : XK) : Cx := cxG Pr w K mg base N_product_by "product_by" (defScope st_product_by) f cd A outer s H E
theorem d_product_by (ml : LmsOk Pr w K mg PP T) (o : XS PP k T (X_product_by Pr w K mg base f cd A outer s H E) (fun cls d _ H2 => E cls d H2)) : SSs PP k T (X_product_by Pr w K mg base f cd A outer s H E) (fun cls d _ H2 => E cls d H2) (defBody st_product_by) df_product_by.body :=
  (sss_cons (ss_ret (se_biT biTuple (o.o.fr _ fr_tuple) (sps_cons (sp_of (se_lc o.o (⟨(si_sq (sp_var 0)), blkOk_by (own := [("row", 2)]) (by kernel_rfl), fun _ _ _ _ _ o1 => (pg1 2 o1.nd), fun _ _ _ _ _ o1 => sif_nil, fun _ _ _ _ _ o1 => (se_call o1 lk_mixed_by (sa_cons (se_var 2) (sa_cons (se_var 1) (sa_cons (se_call o1 lk_width_of (sa_cons (se_var 1) sa_nil)) sa_nil)))), by decide, by intro _; rfl⟩))) sps_nil))) sss_nil)
abbrev X_table_product (Pr : Program) (w : World) (K : PySem.W.Frag) (mg : Str → Option Value) (base : Heap) (f : Addr) (cd : Value) (A : Around) (outer : List Env) (s : Shared) (H : Hp) (E : XK) : Cx := cxG Pr w K mg base N_table_product "table_product" (defScope st_table_product) f cd A outer s H E
theorem d_table_product (ml : LmsOk Pr w K mg PP T) (o : XS PP k T (X_table_product Pr w K mg base f cd A outer s H E) (fun cls d _ H2 => E cls d H2)) : SSs PP k T (X_table_product Pr w K mg base f cd A outer s H E) (fun cls d _ H2 => E cls d H2) (defBody st_table_product) df_table_product.body :=
  (sss_cons (ss_setT o.o.calm (sgs_cons (sg_nm 2 o.o.nd) (sgs_cons (sg_nm 3 o.o.nd) sgs_nil)) (se_call o.o lk_two_from (sa_cons (se_var 0) (sa_cons (se_var 1) sa_nil)))) (sss_cons (ss_if (st_bool (sw_and (st_cmp opGt (sp_of (se_bi biLen (o.o.fr _ fr_len) (sps_cons (sp_var 2) sps_nil))) (sp_of se_int)) (sw_and1 (st_cmp (opNe o.o.hu) (sp_of (se_call o.o lk_width_of (sa_cons (se_var 2) sa_nil))) (sp_of (se_bi biLen (o.o.fr _ fr_len) (sps_cons (sp_var 3) sps_nil))))))) (sss_cons (ss_rse o.o ex_Unlike (sa_cons se_str sa_nil)) sss_nil) sss_nil) (sss_cons (ss_ret (se_call o.o lk_product_by (sa_cons (se_var 2) (sa_cons (se_var 3) sa_nil)))) sss_nil)))
abbrev X_turned_by (Pr : Program) (w : World) (K : PySem.W.Frag) (mg : Str → Option Value) (base : Heap) (f : Addr) (cd : Value) (A : Around) (outer : List Env) (s : Shared) (H : Hp) (E : XK) : Cx := cxG Pr w K mg base N_turned_by "turned_by" (defScope st_turned_by) f cd A outer s H E
theorem d_turned_by (ml : LmsOk Pr w K mg PP T) (o : XS PP k T (X_turned_by Pr w K mg base f cd A outer s H E) (fun cls d _ H2 => E cls d H2)) : SSs PP k T (X_turned_by Pr w K mg base f cd A outer s H E) (fun cls d _ H2 => E cls d H2) (defBody st_turned_by) df_turned_by.body :=
  (sss_cons (ss_ret (se_biT biTuple (o.o.fr _ fr_tuple) (sps_cons (sp_of (se_lc o.o (⟨(si_rng1 (o.o.fr _ fr_range) (se_call o.o lk_width_of (sa_cons (se_var 0) sa_nil))), blkOk_by (own := [("place", 1)]) (by kernel_rfl), fun _ _ _ _ _ o1 => (pg1 1 o1.nd), fun _ _ _ _ _ o1 => sif_nil, fun _ _ _ _ _ o1 => (se_biT biTuple (o1.fr _ fr_tuple) (sps_cons (sp_of (se_lc o1 (⟨(si_sq (sp_var 0)), blkOk_by (own := [("row", 2)]) (by kernel_rfl), fun _ _ _ _ _ o2 => (pg1 2 o2.nd), fun _ _ _ _ _ o2 => sif_nil, fun _ _ _ _ _ o2 => (se_idx (sp_var 2) (se_var 1)), by decide, by intro _; rfl⟩))) sps_nil)), by decide, by intro _; rfl⟩))) sps_nil))) sss_nil)
abbrev X_turned_over (Pr : Program) (w : World) (K : PySem.W.Frag) (mg : Str → Option Value) (base : Heap) (f : Addr) (cd : Value) (A : Around) (outer : List Env) (s : Shared) (H : Hp) (E : XK) : Cx := cxG Pr w K mg base N_turned_over "turned_over" (defScope st_turned_over) f cd A outer s H E
theorem d_turned_over (ml : LmsOk Pr w K mg PP T) (o : XS PP k T (X_turned_over Pr w K mg base f cd A outer s H E) (fun cls d _ H2 => E cls d H2)) : SSs PP k T (X_turned_over Pr w K mg base f cd A outer s H E) (fun cls d _ H2 => E cls d H2) (defBody st_turned_over) df_turned_over.body :=
  (sss_cons (ss_ret (se_call o.o lk_turned_by (sa_cons (se_call o.o lk_table_from (sa_cons (se_var 0) sa_nil)) sa_nil))) sss_nil)
abbrev X_unit_row (Pr : Program) (w : World) (K : PySem.W.Frag) (mg : Str → Option Value) (base : Heap) (f : Addr) (cd : Value) (A : Around) (outer : List Env) (s : Shared) (H : Hp) (E : XK) : Cx := cxG Pr w K mg base N_unit_row "unit_row" (defScope st_unit_row) f cd A outer s H E
theorem d_unit_row (ml : LmsOk Pr w K mg PP T) (o : XS PP k T (X_unit_row Pr w K mg base f cd A outer s H E) (fun cls d _ H2 => E cls d H2)) : SSs PP k T (X_unit_row Pr w K mg base f cd A outer s H E) (fun cls d _ H2 => E cls d H2) (defBody st_unit_row) df_unit_row.body :=
  (sss_cons (ss_ret (se_biT biTuple (o.o.fr _ fr_tuple) (sps_cons (sp_of (se_lc o.o (⟨(si_rng1 (o.o.fr _ fr_range) (se_var 0)), blkOk_by (own := [("n", 2)]) (by kernel_rfl), fun _ _ _ _ _ o1 => (pg1 2 o1.nd), fun _ _ _ _ _ o1 => sif_nil, fun _ _ _ _ _ o1 => (se_ite (st_cmp (opEq o1.hu) (sp_var 2) (sp_var 1)) (se_glb (o1.gl _ _ gl_ONE)) (se_glb (o1.gl _ _ gl_NONE))), by decide, by intro _; rfl⟩))) sps_nil))) sss_nil)
abbrev X_unit_by (Pr : Program) (w : World) (K : PySem.W.Frag) (mg : Str → Option Value) (base : Heap) (f : Addr) (cd : Value) (A : Around) (outer : List Env) (s : Shared) (H : Hp) (E : XK) : Cx := cxG Pr w K mg base N_unit_by "unit_by" (defScope st_unit_by) f cd A outer s H E
theorem d_unit_by (ml : LmsOk Pr w K mg PP T) (o : XS PP k T (X_unit_by Pr w K mg base f cd A outer s H E) (fun cls d _ H2 => E cls d H2)) : SSs PP k T (X_unit_by Pr w K mg base f cd A outer s H E) (fun cls d _ H2 => E cls d H2) (defBody st_unit_by) df_unit_by.body :=
  (sss_cons (ss_ret (se_biT biTuple (o.o.fr _ fr_tuple) (sps_cons (sp_of (se_lc o.o (⟨(si_rng1 (o.o.fr _ fr_range) (se_var 0)), blkOk_by (own := [("place", 1)]) (by kernel_rfl), fun _ _ _ _ _ o1 => (pg1 1 o1.nd), fun _ _ _ _ _ o1 => sif_nil, fun _ _ _ _ _ o1 => (se_call o1 lk_unit_row (sa_cons (se_var 0) (sa_cons (se_var 1) sa_nil))), by decide, by intro _; rfl⟩))) sps_nil))) sss_nil)
abbrev X_unit_table (Pr : Program) (w : World) (K : PySem.W.Frag) (mg : Str → Option Value) (base : Heap) (f : Addr) (cd : Value) (A : Around) (outer : List Env) (s : Shared) (H : Hp) (E : XK) : Cx := cxG Pr w K mg base N_unit_table "unit_table" (defScope st_unit_table) f cd A outer s H E
theorem d_unit_table (ml : LmsOk Pr w K mg PP T) (o : XS PP k T (X_unit_table Pr w K mg base f cd A outer s H E) (fun cls d _ H2 => E cls d H2)) : SSs PP k T (X_unit_table Pr w K mg base f cd A outer s H E) (fun cls d _ H2 => E cls d H2) (defBody st_unit_table) df_unit_table.body :=
  (sss_cons (ss_ex (se_call o.o lk_need_between (sa_cons se_str (sa_cons (se_var 0) (sa_cons se_int (sa_cons (se_glb (o.o.gl _ _ gl_MOST_SIZE)) sa_nil)))))) (sss_cons (ss_ret (se_call o.o lk_unit_by (sa_cons (se_var 0) sa_nil))) sss_nil))
abbrev X_power_by (Pr : Program) (w : World) (K : PySem.W.Frag) (mg : Str → Option Value) (base : Heap) (f : Addr) (cd : Value) (A : Around) (outer : List Env) (s : Shared) (H : Hp) (E : XK) : Cx := cxG Pr w K mg base N_power_by "power_by" (defScope st_power_by) f cd A outer s H E
theorem d_power_by (ml : LmsOk Pr w K mg PP T) (o : XS PP k T (X_power_by Pr w K mg base f cd A outer s H E) (fun cls d _ H2 => E cls d H2)) : SSs PP k T (X_power_by Pr w K mg base f cd A outer s H E) (fun cls d _ H2 => E cls d H2) (defBody st_power_by) df_power_by.body :=
  (sss_cons (ss_set 2 o.o.nd (se_call o.o lk_unit_by (sa_cons (se_bi biLen (o.o.fr _ fr_len) (sps_cons (sp_var 0) sps_nil)) sa_nil))) (sss_cons (ss_for o (si_rng1 (o.o.fr _ fr_range) (se_var 1)) (pg1 3 o.o.nd) (sss_cons (ss_set 2 o.o.nd (se_call o.o lk_product_by (sa_cons (se_var 2) (sa_cons (se_var 0) sa_nil)))) sss_nil)) (sss_cons (ss_retv 2) sss_nil)))
abbrev X_table_power (Pr : Program) (w : World) (K : PySem.W.Frag) (mg : Str → Option Value) (base : Heap) (f : Addr) (cd : Value) (A : Around) (outer : List Env) (s : Shared) (H : Hp) (E : XK) : Cx := cxG Pr w K mg base N_table_power "table_power" (defScope st_table_power) f cd A outer s H E
theorem d_table_power (ml : LmsOk Pr w K mg PP T) (o : XS PP k T (X_table_power Pr w K mg base f cd A outer s H E) (fun cls d _ H2 => E cls d H2)) : SSs PP k T (X_table_power Pr w K mg base f cd A outer s H E) (fun cls d _ H2 => E cls d H2) (defBody st_table_power) df_table_power.body :=
  (sss_cons (ss_set 2 o.o.nd (se_call o.o lk_square_from (sa_cons (se_var 0) sa_nil))) (sss_cons (ss_ex (se_call o.o lk_need_between (sa_cons se_str (sa_cons (se_var 1) (sa_cons se_int (sa_cons (se_glb (o.o.gl _ _ gl_MOST_SIZE)) sa_nil)))))) (sss_cons (ss_ret (se_call o.o lk_power_by (sa_cons (se_var 2) (sa_cons (se_var 1) sa_nil)))) sss_nil)))
abbrev X__law_pen (Pr : Program) (w : World) (K : PySem.W.Frag) (mg : Str → Option Value) (base : Heap) (f : Addr) (cd : Value) (A : Around) (outer : List Env) (s : Shared) (H : Hp) (E : XK) : Cx := cxG Pr w K mg base N__law_pen "_law_pen" (defScope st__law_pen) f cd A outer s H E
theorem d__law_pen (ml : LmsOk Pr w K mg PP T) (o : XS PP k T (X__law_pen Pr w K mg base f cd A outer s H E) (fun cls d _ H2 => E cls d H2)) : SSs PP k T (X__law_pen Pr w K mg base f cd A outer s H E) (fun cls d _ H2 => E cls d H2) (defBody st__law_pen) df__law_pen.body :=
  (sss_cons (ss_set 1 o.o.nd se_int) (sss_cons (ss_for o (si_sq (sp_var 0)) (pg1 2 o.o.nd) (sss_cons (ss_set 1 o.o.nd (se_bin opMod (sp_of (se_biT biInt (o.o.fr _ fr_int) (sps_cons (sp_of (se_bin opAdd (sp_of (se_bin opMul (sp_var 1) (sp_of se_int))) (sp_var 2))) sps_nil))) (sp_of se_int))) sss_nil)) (sss_cons (ss_ret (se_dic rfl (sd_cons (se_biT biList (o.o.fr _ fr_list) (sps_cons (sp_var 0) sps_nil)) (sd_cons se_int (sd_cons se_int (sd_cons se_int (sd_cons (se_var 1) sd_nil))))))) sss_nil)))
abbrev X__law_draw (Pr : Program) (w : World) (K : PySem.W.Frag) (mg : Str → Option Value) (base : Heap) (f : Addr) (cd : Value) (A : Around) (outer : List Env) (s : Shared) (H : Hp) (E : XK) : Cx := cxG Pr w K mg base N__law_draw "_law_draw" (defScope st__law_draw) f cd A outer s H E
theorem d__law_draw (ml : LmsOk Pr w K mg PP T) (o : XS PP k T (X__law_draw Pr w K mg base f cd A outer s H E) (fun cls d _ H2 => E cls d H2)) : SSs PP k T (X__law_draw Pr w K mg base f cd A outer s H E) (fun cls d _ H2 => E cls d H2) (defBody st__law_draw) df__law_draw.body :=
  (sss_cons (ss_asg (sg_ky o.o.hu1 (se_var 0)) (se_bin opAdd (sp_of (se_key o.o.hu1 (se_var 0))) (sp_of se_int))) (sss_cons (ss_if (st_bool (sw_and (st_cmp (opEq o.o.hu) (sp_of (se_key o.o.hu1 (se_var 0))) (sp_of se_int)) (sw_and1 (st_cmp opLt (sp_of (se_key o.o.hu1 (se_var 0))) (sp_of (se_bi biLen (o.o.fr _ fr_len) (sps_cons (sp_of (se_key o.o.hu1 (se_var 0))) sps_nil))))))) (sss_cons (ss_set 2 o.o.nd (se_idx (sp_of (se_key o.o.hu1 (se_var 0))) (se_key o.o.hu1 (se_var 0)))) (sss_cons (ss_asg (sg_ky o.o.hu1 (se_var 0)) (se_bin opAdd (sp_of (se_key o.o.hu1 (se_var 0))) (sp_of se_int))) (sss_cons (ss_if (st_cmp opGe (sp_var 2) (sp_of (se_bin opPow (sp_of se_int) (sp_of se_int)))) (sss_cons (ss_asg (sg_ky o.o.hu1 (se_var 0)) (se_bin opSub (sp_var 2) (sp_of (se_bin opPow (sp_of se_int) (sp_of se_int))))) sss_nil) (sss_cons (ss_asg (sg_ky o.o.hu1 (se_var 0)) (se_bin opMod (sp_of (se_biT biInt (o.o.fr _ fr_int) (sps_cons (sp_of (se_bin opAdd (sp_of (se_bin opMul (sp_of (se_key o.o.hu1 (se_var 0))) (sp_of se_int))) (sp_var 2))) sps_nil))) (sp_of se_int))) sss_nil)) sss_nil))) sss_nil) (sss_cons (ss_if (st_cmp opGt (sp_of (se_key o.o.hu1 (se_var 0))) (sp_of se_int)) (sss_cons (ss_set 3 o.o.nd (se_bin opMod (sp_of (se_biT biInt (o.o.fr _ fr_int) (sps_cons (sp_of (se_key o.o.hu1 (se_var 0))) sps_nil))) (sp_var 1))) (sss_cons (ss_asg (sg_ky o.o.hu1 (se_var 0)) (se_bin opDiv (sp_of (se_key o.o.hu1 (se_var 0))) (sp_var 1))) (sss_cons (ss_retv 3) sss_nil))) sss_nil) (sss_cons (ss_set 4 o.o.nd (se_bin opAdd (sp_of (se_bin opAdd (sp_of (se_key o.o.hu1 (se_var 0))) (sp_of (se_bin opMul (sp_of (se_key o.o.hu1 (se_var 0))) (sp_of se_int))))) (sp_of se_int))) (sss_cons (ss_ret (se_bin opMod (sp_of (se_bin opDiv (sp_of (se_biT biInt (o.o.fr _ fr_int) (sps_cons (sp_of (se_bin opMod (sp_of (se_bin opPow (sp_var 4) (sp_of se_int))) (sp_of se_int))) sps_nil))) (sp_of se_int))) (sp_var 1))) sss_nil)))))
abbrev X__law_pick (Pr : Program) (w : World) (K : PySem.W.Frag) (mg : Str → Option Value) (base : Heap) (f : Addr) (cd : Value) (A : Around) (outer : List Env) (s : Shared) (H : Hp) (E : XK) : Cx := cxG Pr w K mg base N__law_pick "_law_pick" (defScope st__law_pick) f cd A outer s H E
theorem d__law_pick (ml : LmsOk Pr w K mg PP T) (o : XS PP k T (X__law_pick Pr w K mg base f cd A outer s H E) (fun cls d _ H2 => E cls d H2)) : SSs PP k T (X__law_pick Pr w K mg base f cd A outer s H E) (fun cls d _ H2 => E cls d H2) (defBody st__law_pick) df__law_pick.body :=
  (sss_cons (ss_ret (se_idx (sp_var 1) (se_call o.o lk__law_draw (sa_cons (se_var 0) (sa_cons (se_bi biLen (o.o.fr _ fr_len) (sps_cons (sp_var 1) sps_nil)) sa_nil))))) sss_nil)
abbrev X__law_gcd (Pr : Program) (w : World) (K : PySem.W.Frag) (mg : Str → Option Value) (base : Heap) (f : Addr) (cd : Value) (A : Around) (outer : List Env) (s : Shared) (H : Hp) (E : XK) : Cx := cxG Pr w K mg base N__law_gcd "_law_gcd" (defScope st__law_gcd) f cd A outer s H E
theorem d__law_gcd (ml : LmsOk Pr w K mg PP T) (o : XS PP k T (X__law_gcd Pr w K mg base f cd A outer s H E) (fun cls d _ H2 => E cls d H2)) : SSs PP k T (X__law_gcd Pr w K mg base f cd A outer s H E) (fun cls d _ H2 => E cls d H2) (defBody st__law_gcd) df__law_gcd.body :=
  (sss_cons (ss_par2 0 1 o.o (sa_cons (se_bi biAbs (o.o.fr _ fr_abs) (sps_cons (sp_var 0) sps_nil)) (sa_cons (se_bi biAbs (o.o.fr _ fr_abs) (sps_cons (sp_var 1) sps_nil)) sa_nil))) (sss_cons (ss_for o (si_rng1 (o.o.fr _ fr_range) (se_bin opAdd (sp_of se_int) (sp_of (se_bin opMul (sp_of se_int) (sp_of (se_bits (se_biT biInt (o.o.fr _ fr_int) (sps_cons (sp_var 1) sps_nil)))))))) (pg1 2 o.o.nd) (sss_cons (ss_if (st_cmp (opEq o.o.hu) (sp_var 1) (sp_of se_int)) (sss_cons ss_brk sss_nil) sss_nil) (sss_cons (ss_par2 0 1 o.o (sa_cons (se_var 1) (sa_cons (se_bin opMod (sp_of (se_biT biInt (o.o.fr _ fr_int) (sps_cons (sp_var 0) sps_nil))) (sp_var 1)) sa_nil))) sss_nil))) (sss_cons (ss_retv 0) sss_nil)))
abbrev X__law_q (Pr : Program) (w : World) (K : PySem.W.Frag) (mg : Str → Option Value) (base : Heap) (f : Addr) (cd : Value) (A : Around) (outer : List Env) (s : Shared) (H : Hp) (E : XK) : Cx := cxG Pr w K mg base N__law_q "_law_q" (defScope st__law_q) f cd A outer s H E
theorem d__law_q (ml : LmsOk Pr w K mg PP T) (o : XS PP k T (X__law_q Pr w K mg base f cd A outer s H E) (fun cls d _ H2 => E cls d H2)) : SSs PP k T (X__law_q Pr w K mg base f cd A outer s H E) (fun cls d _ H2 => E cls d H2) (defBody st__law_q) df__law_q.body :=
  (sss_cons (ss_set 2 o.o.nd (se_call o.o lk__law_gcd (sa_cons (se_var 0) (sa_cons (se_var 1) sa_nil)))) (sss_cons (ss_set 2 o.o.nd (se_ite (st_cmp opLt (sp_var 1) (sp_of se_int)) (se_neg (se_var 2)) (se_var 2))) (sss_cons (ss_ret (se_tup (sa_cons (se_bin opDiv (sp_var 0) (sp_var 2)) (sa_cons (se_bin opDiv (sp_var 1) (sp_var 2)) sa_nil)))) sss_nil)))
abbrev X__law_plus (Pr : Program) (w : World) (K : PySem.W.Frag) (mg : Str → Option Value) (base : Heap) (f : Addr) (cd : Value) (A : Around) (outer : List Env) (s : Shared) (H : Hp) (E : XK) : Cx := cxG Pr w K mg base N__law_plus "_law_plus" (defScope st__law_plus) f cd A outer s H E
theorem d__law_plus (ml : LmsOk Pr w K mg PP T) (o : XS PP k T (X__law_plus Pr w K mg base f cd A outer s H E) (fun cls d _ H2 => E cls d H2)) : SSs PP k T (X__law_plus Pr w K mg base f cd A outer s H E) (fun cls d _ H2 => E cls d H2) (defBody st__law_plus) df__law_plus.body :=
  (sss_cons (ss_ret (se_call o.o lk__law_q (sa_cons (se_bin opAdd (sp_of (se_bin opMul (sp_of (se_idx (sp_var 0) se_int)) (sp_of (se_idx (sp_var 1) se_int)))) (sp_of (se_bin opMul (sp_of (se_idx (sp_var 1) se_int)) (sp_of (se_idx (sp_var 0) se_int))))) (sa_cons (se_bin opMul (sp_of (se_idx (sp_var 0) se_int)) (sp_of (se_idx (sp_var 1) se_int))) sa_nil)))) sss_nil)
abbrev X__law_times (Pr : Program) (w : World) (K : PySem.W.Frag) (mg : Str → Option Value) (base : Heap) (f : Addr) (cd : Value) (A : Around) (outer : List Env) (s : Shared) (H : Hp) (E : XK) : Cx := cxG Pr w K mg base N__law_times "_law_times" (defScope st__law_times) f cd A outer s H E
theorem d__law_times (ml : LmsOk Pr w K mg PP T) (o : XS PP k T (X__law_times Pr w K mg base f cd A outer s H E) (fun cls d _ H2 => E cls d H2)) : SSs PP k T (X__law_times Pr w K mg base f cd A outer s H E) (fun cls d _ H2 => E cls d H2) (defBody st__law_times) df__law_times.body :=
  (sss_cons (ss_ret (se_call o.o lk__law_q (sa_cons (se_bin opMul (sp_of (se_idx (sp_var 0) se_int)) (sp_of (se_idx (sp_var 1) se_int))) (sa_cons (se_bin opMul (sp_of (se_idx (sp_var 0) se_int)) (sp_of (se_idx (sp_var 1) se_int))) sa_nil)))) sss_nil)
abbrev X__law_handed (Pr : Program) (w : World) (K : PySem.W.Frag) (mg : Str → Option Value) (base : Heap) (f : Addr) (cd : Value) (A : Around) (outer : List Env) (s : Shared) (H : Hp) (E : XK) : Cx := cxG Pr w K mg base N__law_handed "_law_handed" (defScope st__law_handed) f cd A outer s H E
theorem d__law_handed (ml : LmsOk Pr w K mg PP T) (o : XS PP k T (X__law_handed Pr w K mg base f cd A outer s H E) (fun cls d _ H2 => E cls d H2)) : SSs PP k T (X__law_handed Pr w K mg base f cd A outer s H E) (fun cls d _ H2 => E cls d H2) (defBody st__law_handed) df__law_handed.body :=
  (sss_cons (ss_if (st_bool (sw_and (st_cmp (opEq o.o.hu) (sp_of (se_idx (sp_var 1) se_int)) (sp_of se_int)) (sw_and1 (st_cmp (opEq o.o.hu) (sp_of (se_call o.o lk__law_draw (sa_cons (se_var 0) (sa_cons se_int sa_nil)))) (sp_of se_int))))) (sss_cons (ss_ret (se_idx (sp_var 1) se_int)) sss_nil) sss_nil) (sss_cons (ss_set 2 o.o.nd (se_call o.o lk__law_pick (sa_cons (se_var 0) (sa_cons (se_lst (sa_cons se_int (sa_cons se_int (sa_cons se_int (sa_cons se_int sa_nil))))) sa_nil)))) (sss_cons (ss_ret (se_call o.o lk__law_pick (sa_cons (se_var 0) (sa_cons (se_lst (sa_cons (se_tup (sa_cons (se_bin opMul (sp_of (se_idx (sp_var 1) se_int)) (sp_var 2)) (sa_cons (se_bin opMul (sp_of (se_idx (sp_var 1) se_int)) (sp_var 2)) sa_nil))) (sa_cons (se_lst (sa_cons (se_bin opMul (sp_of (se_idx (sp_var 1) se_int)) (sp_var 2)) (sa_cons (se_bin opMul (sp_of (se_idx (sp_var 1) se_int)) (sp_var 2)) sa_nil))) sa_nil))) sa_nil)))) sss_nil)))
abbrev X__law_handed_row (Pr : Program) (w : World) (K : PySem.W.Frag) (mg : Str → Option Value) (base : Heap) (f : Addr) (cd : Value) (A : Around) (outer : List Env) (s : Shared) (H : Hp) (E : XK) : Cx := cxG Pr w K mg base N__law_handed_row "_law_handed_row" (defScope st__law_handed_row) f cd A outer s H E
theorem d__law_handed_row (ml : LmsOk Pr w K mg PP T) (o : XS PP k T (X__law_handed_row Pr w K mg base f cd A outer s H E) (fun cls d _ H2 => E cls d H2)) : SSs PP k T (X__law_handed_row Pr w K mg base f cd A outer s H E) (fun cls d _ H2 => E cls d H2) (defBody st__law_handed_row) df__law_handed_row.body :=
  (sss_cons (ss_setLc 2 o.o (⟨(si_sq (sp_var 1)), blkOk_by (own := [("item", 3)]) (by kernel_rfl), fun _ _ _ _ _ o1 => (pg1 3 o1.nd), fun _ _ _ _ _ o1 => sif_nil, fun _ _ _ _ _ o1 => (se_call o1 lk__law_handed (sa_cons (se_var 0) (sa_cons (se_var 3) sa_nil))), by decide, by intro _; rfl⟩) (hw := sw_true rfl rfl rfl rfl)) (sss_cons (ss_ret (se_call o.o lk__law_pick (sa_cons (se_var 0) (sa_cons (se_lst (sa_cons (se_biT biTuple (o.o.fr _ fr_tuple) (sps_cons (sp_var 2) sps_nil)) (sa_cons (se_var 2) sa_nil))) sa_nil)))) sss_nil))
abbrev X__law_passed (Pr : Program) (w : World) (K : PySem.W.Frag) (mg : Str → Option Value) (base : Heap) (f : Addr) (cd : Value) (A : Around) (outer : List Env) (s : Shared) (H : Hp) (E : XK) : Cx := cxG Pr w K mg base N__law_passed "_law_passed" (defScope st__law_passed) f cd A outer s H E
theorem d__law_passed (ml : LmsOk Pr w K mg PP T) (o : XS PP k T (X__law_passed Pr w K mg base f cd A outer s H E) (fun cls d _ H2 => E cls d H2)) : SSs PP k T (X__law_passed Pr w K mg base f cd A outer s H E) (fun cls d _ H2 => E cls d H2) (defBody st__law_passed) df__law_passed.body :=
  (sss_cons (ss_ret (se_call o.o lk__law_pick (sa_cons (se_var 0) (sa_cons (se_lst (sa_cons (se_biT biTuple (o.o.fr _ fr_tuple) (sps_cons (sp_var 1) sps_nil)) (sa_cons (se_biT biList (o.o.fr _ fr_list) (sps_cons (sp_var 1) sps_nil)) sa_nil))) sa_nil)))) sss_nil)
abbrev X__law_ratio (Pr : Program) (w : World) (K : PySem.W.Frag) (mg : Str → Option Value) (base : Heap) (f : Addr) (cd : Value) (A : Around) (outer : List Env) (s : Shared) (H : Hp) (E : XK) : Cx := cxG Pr w K mg base N__law_ratio "_law_ratio" (defScope st__law_ratio) f cd A outer s H E
theorem d__law_ratio (ml : LmsOk Pr w K mg PP T) (o : XS PP k T (X__law_ratio Pr w K mg base f cd A outer s H E) (fun cls d _ H2 => E cls d H2)) : SSs PP k T (X__law_ratio Pr w K mg base f cd A outer s H E) (fun cls d _ H2 => E cls d H2) (defBody st__law_ratio) df__law_ratio.body :=
  (sss_cons (ss_ret (se_call o.o lk__law_q (sa_cons (se_bin opSub (sp_of (se_call o.o lk__law_draw (sa_cons (se_var 0) (sa_cons (se_bin opAdd (sp_of (se_bin opMul (sp_of se_int) (sp_var 1))) (sp_of se_int)) sa_nil)))) (sp_var 1)) (sa_cons (se_call o.o lk__law_pick (sa_cons (se_var 0) (sa_cons (se_lst (sa_cons se_int (sa_cons se_int (sa_cons se_int (sa_cons se_int (sa_cons se_int sa_nil)))))) sa_nil))) sa_nil)))) sss_nil)
abbrev X__law_sum (Pr : Program) (w : World) (K : PySem.W.Frag) (mg : Str → Option Value) (base : Heap) (f : Addr) (cd : Value) (A : Around) (outer : List Env) (s : Shared) (H : Hp) (E : XK) : Cx := cxG Pr w K mg base N__law_sum "_law_sum" (defScope st__law_sum) f cd A outer s H E
theorem d__law_sum (ml : LmsOk Pr w K mg PP T) (o : XS PP k T (X__law_sum Pr w K mg base f cd A outer s H E) (fun cls d _ H2 => E cls d H2)) : SSs PP k T (X__law_sum Pr w K mg base f cd A outer s H E) (fun cls d _ H2 => E cls d H2) (defBody st__law_sum) df__law_sum.body :=
  (sss_cons (ss_set 1 o.o.nd (se_tup (sa_cons se_int (sa_cons se_int sa_nil)))) (sss_cons (ss_for o (si_sq (sp_var 0)) (pg1 2 o.o.nd) (sss_cons (ss_set 1 o.o.nd (se_call o.o lk__law_plus (sa_cons (se_var 1) (sa_cons (se_var 2) sa_nil)))) sss_nil)) (sss_cons (ss_retv 1) sss_nil)))
abbrev X__law_zeros (Pr : Program) (w : World) (K : PySem.W.Frag) (mg : Str → Option Value) (base : Heap) (f : Addr) (cd : Value) (A : Around) (outer : List Env) (s : Shared) (H : Hp) (E : XK) : Cx := cxG Pr w K mg base N__law_zeros "_law_zeros" (defScope st__law_zeros) f cd A outer s H E
theorem d__law_zeros (ml : LmsOk Pr w K mg PP T) (o : XS PP k T (X__law_zeros Pr w K mg base f cd A outer s H E) (fun cls d _ H2 => E cls d H2)) : SSs PP k T (X__law_zeros Pr w K mg base f cd A outer s H E) (fun cls d _ H2 => E cls d H2) (defBody st__law_zeros) df__law_zeros.body :=
  (sss_cons (ss_ret (se_biT biTuple (o.o.fr _ fr_tuple) (sps_cons (sp_of (se_bin opMul (sp_of (se_lst (sa_cons (se_tup (sa_cons se_int (sa_cons se_int sa_nil))) sa_nil))) (sp_var 0))) sps_nil))) sss_nil)
abbrev X__law_row_table (Pr : Program) (w : World) (K : PySem.W.Frag) (mg : Str → Option Value) (base : Heap) (f : Addr) (cd : Value) (A : Around) (outer : List Env) (s : Shared) (H : Hp) (E : XK) : Cx := cxG Pr w K mg base N__law_row_table "_law_row_table" (defScope st__law_row_table) f cd A outer s H E
theorem d__law_row_table (ml : LmsOk Pr w K mg PP T) (o : XS PP k T (X__law_row_table Pr w K mg base f cd A outer s H E) (fun cls d _ H2 => E cls d H2)) : SSs PP k T (X__law_row_table Pr w K mg base f cd A outer s H E) (fun cls d _ H2 => E cls d H2) (defBody st__law_row_table) df__law_row_table.body :=
  (sss_cons (ss_ret (se_biT biTuple (o.o.fr _ fr_tuple) (sps_cons (sp_of (se_lc o.o (⟨(si_rng1 (o.o.fr _ fr_range) (se_var 2)), blkOk_by (own := [("k", 3)]) (by kernel_rfl), fun _ _ _ _ _ o1 => (pg1 3 o1.nd), fun _ _ _ _ _ o1 => sif_nil, fun _ _ _ _ _ o1 => (se_call o1 lk__law_sum (sa_cons (se_lc o1 (⟨(si_zip (o1.fr _ fr_zip) (sp_var 0) (sp_var 1)), blkOk_by (own := [("item", 4), ("line", 5)]) (by kernel_rfl), fun _ _ _ _ _ o2 => (pgT o2.calm (pgn_cons 4 o2.nd (pgn_cons 5 o2.nd pgn_nil))), fun _ _ _ _ _ o2 => sif_nil, fun _ _ _ _ _ o2 => (se_call o2 lk__law_times (sa_cons (se_var 4) (sa_cons (se_idx (sp_var 5) (se_var 3)) sa_nil))), by decide, by intro _; rfl⟩)) sa_nil)), by decide, by intro _; rfl⟩))) sps_nil))) sss_nil)
abbrev X__law_add (Pr : Program) (w : World) (K : PySem.W.Frag) (mg : Str → Option Value) (base : Heap) (f : Addr) (cd : Value) (A : Around) (outer : List Env) (s : Shared) (H : Hp) (E : XK) : Cx := cxG Pr w K mg base N__law_add "_law_add" (defScope st__law_add) f cd A outer s H E
theorem d__law_add (ml : LmsOk Pr w K mg PP T) (o : XS PP k T (X__law_add Pr w K mg base f cd A outer s H E) (fun cls d _ H2 => E cls d H2)) : SSs PP k T (X__law_add Pr w K mg base f cd A outer s H E) (fun cls d _ H2 => E cls d H2) (defBody st__law_add) df__law_add.body :=
  (sss_cons (ss_ret (se_biT biTuple (o.o.fr _ fr_tuple) (sps_cons (sp_of (se_lc o.o (⟨(si_zip (o.o.fr _ fr_zip) (sp_var 0) (sp_var 1)), blkOk_by (own := [("a", 2), ("b", 3)]) (by kernel_rfl), fun _ _ _ _ _ o1 => (pgT o1.calm (pgn_cons 2 o1.nd (pgn_cons 3 o1.nd pgn_nil))), fun _ _ _ _ _ o1 => sif_nil, fun _ _ _ _ _ o1 => (se_call o1 lk__law_plus (sa_cons (se_var 2) (sa_cons (se_var 3) sa_nil))), by decide, by intro _; rfl⟩))) sps_nil))) sss_nil)
abbrev X__law_scaled (Pr : Program) (w : World) (K : PySem.W.Frag) (mg : Str → Option Value) (base : Heap) (f : Addr) (cd : Value) (A : Around) (outer : List Env) (s : Shared) (H : Hp) (E : XK) : Cx := cxG Pr w K mg base N__law_scaled "_law_scaled" (defScope st__law_scaled) f cd A outer s H E
theorem d__law_scaled (ml : LmsOk Pr w K mg PP T) (o : XS PP k T (X__law_scaled Pr w K mg base f cd A outer s H E) (fun cls d _ H2 => E cls d H2)) : SSs PP k T (X__law_scaled Pr w K mg base f cd A outer s H E) (fun cls d _ H2 => E cls d H2) (defBody st__law_scaled) df__law_scaled.body :=
  (sss_cons (ss_ret (se_biT biTuple (o.o.fr _ fr_tuple) (sps_cons (sp_of (se_lc o.o (⟨(si_sq (sp_var 0)), blkOk_by (own := [("item", 2)]) (by kernel_rfl), fun _ _ _ _ _ o1 => (pg1 2 o1.nd), fun _ _ _ _ _ o1 => sif_nil, fun _ _ _ _ _ o1 => (se_call o1 lk__law_times (sa_cons (se_var 2) (sa_cons (se_var 1) sa_nil))), by decide, by intro _; rfl⟩))) sps_nil))) sss_nil)
abbrev X__law_product (Pr : Program) (w : World) (K : PySem.W.Frag) (mg : Str → Option Value) (base : Heap) (f : Addr) (cd : Value) (A : Around) (outer : List Env) (s : Shared) (H : Hp) (E : XK) : Cx := cxG Pr w K mg base N__law_product "_law_product" (defScope st__law_product) f cd A outer s H E
theorem d__law_product (ml : LmsOk Pr w K mg PP T) (o : XS PP k T (X__law_product Pr w K mg base f cd A outer s H E) (fun cls d _ H2 => E cls d H2)) : SSs PP k T (X__law_product Pr w K mg base f cd A outer s H E) (fun cls d _ H2 => E cls d H2) (defBody st__law_product) df__law_product.body :=
  (sss_cons (ss_ret (se_biT biTuple (o.o.fr _ fr_tuple) (sps_cons (sp_of (se_lc o.o (⟨(si_sq (sp_var 0)), blkOk_by (own := [("line", 3)]) (by kernel_rfl), fun _ _ _ _ _ o1 => (pg1 3 o1.nd), fun _ _ _ _ _ o1 => sif_nil, fun _ _ _ _ _ o1 => (se_call o1 lk__law_row_table (sa_cons (se_var 3) (sa_cons (se_var 1) (sa_cons (se_var 2) sa_nil)))), by decide, by intro _; rfl⟩))) sps_nil))) sss_nil)
abbrev X__law_table_sum (Pr : Program) (w : World) (K : PySem.W.Frag) (mg : Str → Option Value) (base : Heap) (f : Addr) (cd : Value) (A : Around) (outer : List Env) (s : Shared) (H : Hp) (E : XK) : Cx := cxG Pr w K mg base N__law_table_sum "_law_table_sum" (defScope st__law_table_sum) f cd A outer s H E
theorem d__law_table_sum (ml : LmsOk Pr w K mg PP T) (o : XS PP k T (X__law_table_sum Pr w K mg base f cd A outer s H E) (fun cls d _ H2 => E cls d H2)) : SSs PP k T (X__law_table_sum Pr w K mg base f cd A outer s H E) (fun cls d _ H2 => E cls d H2) (defBody st__law_table_sum) df__law_table_sum.body :=
  (sss_cons (ss_ret (se_biT biTuple (o.o.fr _ fr_tuple) (sps_cons (sp_of (se_lc o.o (⟨(si_zip (o.o.fr _ fr_zip) (sp_var 0) (sp_var 1)), blkOk_by (own := [("a", 2), ("b", 3)]) (by kernel_rfl), fun _ _ _ _ _ o1 => (pgT o1.calm (pgn_cons 2 o1.nd (pgn_cons 3 o1.nd pgn_nil))), fun _ _ _ _ _ o1 => sif_nil, fun _ _ _ _ _ o1 => (se_call o1 lk__law_add (sa_cons (se_var 2) (sa_cons (se_var 3) sa_nil))), by decide, by intro _; rfl⟩))) sps_nil))) sss_nil)
abbrev X__law_turned (Pr : Program) (w : World) (K : PySem.W.Frag) (mg : Str → Option Value) (base : Heap) (f : Addr) (cd : Value) (A : Around) (outer : List Env) (s : Shared) (H : Hp) (E : XK) : Cx := cxG Pr w K mg base N__law_turned "_law_turned" (defScope st__law_turned) f cd A outer s H E
theorem d__law_turned (ml : LmsOk Pr w K mg PP T) (o : XS PP k T (X__law_turned Pr w K mg base f cd A outer s H E) (fun cls d _ H2 => E cls d H2)) : SSs PP k T (X__law_turned Pr w K mg base f cd A outer s H E) (fun cls d _ H2 => E cls d H2) (defBody st__law_turned) df__law_turned.body :=
  (sss_cons (ss_ret (se_biT biTuple (o.o.fr _ fr_tuple) (sps_cons (sp_of (se_lc o.o (⟨(si_rng1 (o.o.fr _ fr_range) (se_var 1)), blkOk_by (own := [("k", 2)]) (by kernel_rfl), fun _ _ _ _ _ o1 => (pg1 2 o1.nd), fun _ _ _ _ _ o1 => sif_nil, fun _ _ _ _ _ o1 => (se_biT biTuple (o1.fr _ fr_tuple) (sps_cons (sp_of (se_lc o1 (⟨(si_sq (sp_var 0)), blkOk_by (own := [("line", 3)]) (by kernel_rfl), fun _ _ _ _ _ o2 => (pg1 3 o2.nd), fun _ _ _ _ _ o2 => sif_nil, fun _ _ _ _ _ o2 => (se_idx (sp_var 3) (se_var 2)), by decide, by intro _; rfl⟩))) sps_nil)), by decide, by intro _; rfl⟩))) sps_nil))) sss_nil)
abbrev X__law_unit (Pr : Program) (w : World) (K : PySem.W.Frag) (mg : Str → Option Value) (base : Heap) (f : Addr) (cd : Value) (A : Around) (outer : List Env) (s : Shared) (H : Hp) (E : XK) : Cx := cxG Pr w K mg base N__law_unit "_law_unit" (defScope st__law_unit) f cd A outer s H E
theorem d__law_unit (ml : LmsOk Pr w K mg PP T) (o : XS PP k T (X__law_unit Pr w K mg base f cd A outer s H E) (fun cls d _ H2 => E cls d H2)) : SSs PP k T (X__law_unit Pr w K mg base f cd A outer s H E) (fun cls d _ H2 => E cls d H2) (defBody st__law_unit) df__law_unit.body :=
  (sss_cons (ss_ret (se_biT biTuple (o.o.fr _ fr_tuple) (sps_cons (sp_of (se_lc o.o (⟨(si_rng1 (o.o.fr _ fr_range) (se_var 0)), blkOk_by (own := [("i", 1)]) (by kernel_rfl), fun _ _ _ _ _ o1 => (pg1 1 o1.nd), fun _ _ _ _ _ o1 => sif_nil, fun _ _ _ _ _ o1 => (se_biT biTuple (o1.fr _ fr_tuple) (sps_cons (sp_of (se_lc o1 (⟨(si_rng1 (o1.fr _ fr_range) (se_var 0)), blkOk_by (own := [("j", 2)]) (by kernel_rfl), fun _ _ _ _ _ o2 => (pg1 2 o2.nd), fun _ _ _ _ _ o2 => sif_nil, fun _ _ _ _ _ o2 => (se_tup (sa_cons (se_biT biInt (o2.fr _ fr_int) (sps_cons (sp_of (se_cmp (opEq o2.hu) (sp_var 1) (sp_var 2))) sps_nil)) (sa_cons se_int sa_nil))), by decide, by intro _; rfl⟩))) sps_nil)), by decide, by intro _; rfl⟩))) sps_nil))) sss_nil)
abbrev X__law_table_fault (Pr : Program) (w : World) (K : PySem.W.Frag) (mg : Str → Option Value) (base : Heap) (f : Addr) (cd : Value) (A : Around) (outer : List Env) (s : Shared) (H : Hp) (E : XK) : Cx := cxG Pr w K mg base N__law_table_fault "_law_table_fault" (defScope st__law_table_fault) f cd A outer s H E
theorem d__law_table_fault (ml : LmsOk Pr w K mg PP T) (o : XS PP k T (X__law_table_fault Pr w K mg base f cd A outer s H E) (fun cls d _ H2 => E cls d H2)) : SSs PP k T (X__law_table_fault Pr w K mg base f cd A outer s H E) (fun cls d _ H2 => E cls d H2) (defBody st__law_table_fault) df__law_table_fault.body :=
  (sss_cons (ss_try o (fun _ _ _ t1 => (sss_cons (ss_ex (se_callv0 (j := 0) t1.o ml)) (sss_cons (ss_ret se_non) sss_nil))) (hdr_cons 1 o.o ex_BadNumber (fun _ hf => (shd_str (shd_fld hf (shd_fld hf shd_nil)))) (hdr_cons 1 o.o ex_BadRow (fun _ hf => (shd_str (shd_fld hf shd_nil))) (hdr_cons 1 o.o ex_BadTable (fun _ hf => (shd_str (shd_fld hf shd_nil))) (hdr_cons 1 o.o ex_Unlike (fun _ hf => (shd_str (shd_fld hf shd_nil))) hdr_nil))))) sss_nil)
abbrev X__law_tables_due (Pr : Program) (w : World) (K : PySem.W.Frag) (mg : Str → Option Value) (base : Heap) (f : Addr) (cd : Value) (A : Around) (outer : List Env) (s : Shared) (H : Hp) (E : XK) : Cx := cxG Pr w K mg base N__law_tables_due "_law_tables_due" (defScope st__law_tables_due) f cd A outer s H E
theorem d__law_tables_due (ml : LmsOk Pr w K mg PP T) (o : XS PP k T (X__law_tables_due Pr w K mg base f cd A outer s H E) (fun cls d _ H2 => E cls d H2)) : SSs PP k T (X__law_tables_due Pr w K mg base f cd A outer s H E) (fun cls d _ H2 => E cls d H2) (defBody st__law_tables_due) df__law_tables_due.body :=
  (sss_cons (ss_ret (se_bi (biAll o.o.calm) (o.o.fr _ fr_all) (sps_cons (sp_of (se_lc o.o (⟨(si_sq (sp_var 0)), blkOk_by (own := [("action", 1), ("due", 2)]) (by kernel_rfl), fun _ _ _ _ _ o1 => (pgT o1.calm (pgn_cons 1 o1.nd (pgn_cons 2 o1.nd pgn_nil))), fun _ _ _ _ _ o1 => sif_nil, fun _ _ _ _ _ o1 => (se_cmp (opEq o1.hu) (sp_of (se_bi (biRepr o1.grd o1.hu) (o1.fr _ fr_repr) (sps_cons (sp_of (se_call o1 lk__law_table_fault (sa_cons (se_var 1) sa_nil))) sps_nil))) (sp_of (se_bi (biRepr o1.grd o1.hu) (o1.fr _ fr_repr) (sps_cons (sp_var 2) sps_nil)))), by decide, by intro _; rfl⟩))) sps_nil))) sss_nil)
abbrev X__law_some_table (Pr : Program) (w : World) (K : PySem.W.Frag) (mg : Str → Option Value) (base : Heap) (f : Addr) (cd : Value) (A : Around) (outer : List Env) (s : Shared) (H : Hp) (E : XK) : Cx := cxG Pr w K mg base N__law_some_table "_law_some_table" (defScope st__law_some_table) f cd A outer s H E
theorem d__law_some_table (ml : LmsOk Pr w K mg PP T) (o : XS PP k T (X__law_some_table Pr w K mg base f cd A outer s H E) (fun cls d _ H2 => E cls d H2)) : SSs PP k T (X__law_some_table Pr w K mg base f cd A outer s H E) (fun cls d _ H2 => E cls d H2) (defBody st__law_some_table) df__law_some_table.body :=
  (sss_cons (ss_set 3 o.o.nd (se_lst sa_nil)) (sss_cons (ss_for o (si_rng1 (o.o.fr _ fr_range) (se_var 1)) (pg1 4 o.o.nd) (sss_cons (ss_if (st_bool (sw_and (st_cmp (opNe o.o.hu) (sp_var 3) (sp_of (se_lst sa_nil))) (sw_and1 (st_cmp (opEq o.o.hu) (sp_of (se_call o.o lk__law_draw (sa_cons (se_var 0) (sa_cons se_int sa_nil)))) (sp_of se_int))))) (sss_cons (ss_par2 5 6 o.o (sa_cons (se_lc o.o (⟨(si_sq (sp_var 3)), blkOk_by (own := [("one", 8)]) (by kernel_rfl), fun _ _ _ _ _ o1 => (pg1 8 o1.nd), fun _ _ _ _ _ o1 => sif_nil, fun _ _ _ _ _ o1 => (se_call o1 lk__law_ratio (sa_cons (se_var 0) (sa_cons se_int sa_nil))), by decide, by intro _; rfl⟩)) (sa_cons (se_call o.o lk__law_zeros (sa_cons (se_var 2) sa_nil)) sa_nil))) (sss_cons (ss_for o (si_zip (o.o.fr _ fr_zip) (sp_var 5) (sp_var 3)) (pgT o.o.calm (pgn_cons 7 o.o.nd (pgn_cons 8 o.o.nd pgn_nil))) (sss_cons (ss_set 6 o.o.nd (se_call o.o lk__law_add (sa_cons (se_var 6) (sa_cons (se_call o.o lk__law_scaled (sa_cons (se_var 8) (sa_cons (se_var 7) sa_nil))) sa_nil)))) sss_nil)) (sss_cons (ss_ex (se_app (j := 3) (se_var 6))) sss_nil))) (sss_cons (ss_ex (se_app (j := 3) (se_biT biTuple (o.o.fr _ fr_tuple) (sps_cons (sp_of (se_lc o.o (⟨(si_rng1 (o.o.fr _ fr_range) (se_var 2)), blkOk_by (own := [("n", 9)]) (by kernel_rfl), fun _ _ _ _ _ o2 => (pg1 9 o2.nd), fun _ _ _ _ _ o2 => sif_nil, fun _ _ _ _ _ o2 => (se_ite (st_cmp opGt (sp_of (se_call o2 lk__law_draw (sa_cons (se_var 0) (sa_cons se_int sa_nil)))) (sp_of se_int)) (se_call o2 lk__law_ratio (sa_cons (se_var 0) (sa_cons se_int sa_nil))) (se_tup (sa_cons se_int (sa_cons se_int sa_nil)))), by decide, by intro _; rfl⟩))) sps_nil)))) sss_nil)) sss_nil)) (sss_cons (ss_ret (se_biT biTuple (o.o.fr _ fr_tuple) (sps_cons (sp_var 3) sps_nil))) sss_nil)))
abbrev X__law_handed_table (Pr : Program) (w : World) (K : PySem.W.Frag) (mg : Str → Option Value) (base : Heap) (f : Addr) (cd : Value) (A : Around) (outer : List Env) (s : Shared) (H : Hp) (E : XK) : Cx := cxG Pr w K mg base N__law_handed_table "_law_handed_table" (defScope st__law_handed_table) f cd A outer s H E
theorem d__law_handed_table (ml : LmsOk Pr w K mg PP T) (o : XS PP k T (X__law_handed_table Pr w K mg base f cd A outer s H E) (fun cls d _ H2 => E cls d H2)) : SSs PP k T (X__law_handed_table Pr w K mg base f cd A outer s H E) (fun cls d _ H2 => E cls d H2) (defBody st__law_handed_table) df__law_handed_table.body :=
  (sss_cons (ss_ret (se_call o.o lk__law_passed (sa_cons (se_var 0) (sa_cons (se_lc o.o (⟨(si_sq (sp_var 1)), blkOk_by (own := [("row", 2)]) (by kernel_rfl), fun _ _ _ _ _ o1 => (pg1 2 o1.nd), fun _ _ _ _ _ o1 => sif_nil, fun _ _ _ _ _ o1 => (se_call o1 lk__law_handed_row (sa_cons (se_var 0) (sa_cons (se_var 2) sa_nil))), by decide, by intro _; rfl⟩)) sa_nil)))) sss_nil)
abbrev X__law_bad_table (Pr : Program) (w : World) (K : PySem.W.Frag) (mg : Str → Option Value) (base : Heap) (f : Addr) (cd : Value) (A : Around) (outer : List Env) (s : Shared) (H : Hp) (E : XK) : Cx := cxG Pr w K mg base N__law_bad_table "_law_bad_table" (defScope st__law_bad_table) f cd A outer s H E
theorem d__law_bad_table (ml : LmsOk Pr w K mg PP T) (o : XS PP k T (X__law_bad_table Pr w K mg base f cd A outer s H E) (fun cls d _ H2 => E cls d H2)) : SSs PP k T (X__law_bad_table Pr w K mg base f cd A outer s H E) (fun cls d _ H2 => E cls d H2) (defBody st__law_bad_table) df__law_bad_table.body :=
  (sss_cons (ss_ret (se_call o.o lk__law_pick (sa_cons (se_var 0) (sa_cons (se_lst (sa_cons se_non (sa_cons se_int (sa_cons se_str (sa_cons (se_tup (sa_cons se_int sa_nil)) (sa_cons (se_tup (sa_cons (se_tup (sa_cons se_int sa_nil)) (sa_cons (se_tup (sa_cons se_int (sa_cons se_int sa_nil))) sa_nil))) (sa_cons (se_tup (sa_cons (se_tup (sa_cons se_str sa_nil)) sa_nil)) (sa_cons (se_tup (sa_cons (se_tup (sa_cons se_bl sa_nil)) sa_nil)) (sa_cons (se_tup (sa_cons (se_tup (sa_cons (se_tup (sa_cons se_int (sa_cons se_int sa_nil))) sa_nil)) sa_nil)) (sa_cons (se_tup (sa_cons (se_tup (sa_cons se_int sa_nil)) (sa_cons se_non sa_nil))) (sa_cons (se_tup (sa_cons (se_tup (sa_cons (se_tup (sa_cons se_int (sa_cons se_int (sa_cons se_int sa_nil)))) sa_nil)) sa_nil)) (sa_cons (se_bin opMul (sp_of (se_tup (sa_cons (se_tup (sa_cons se_int sa_nil)) sa_nil))) (sp_of se_int)) (sa_cons (se_tup (sa_cons (se_bin opMul (sp_of (se_tup (sa_cons se_int sa_nil))) (sp_of se_int)) sa_nil)) sa_nil))))))))))))) sa_nil)))) sss_nil)
abbrev X__law_wide (Pr : Program) (w : World) (K : PySem.W.Frag) (mg : Str → Option Value) (base : Heap) (f : Addr) (cd : Value) (A : Around) (outer : List Env) (s : Shared) (H : Hp) (E : XK) : Cx := cxG Pr w K mg base N__law_wide "_law_wide" (defScope st__law_wide) f cd A outer s H E
theorem d__law_wide (ml : LmsOk Pr w K mg PP T) (o : XS PP k T (X__law_wide Pr w K mg base f cd A outer s H E) (fun cls d _ H2 => E cls d H2)) : SSs PP k T (X__law_wide Pr w K mg base f cd A outer s H E) (fun cls d _ H2 => E cls d H2) (defBody st__law_wide) df__law_wide.body :=
  (sss_cons (ss_ret (se_ite (st_cmp (opNe o.o.hu) (sp_var 0) (sp_of (se_tup sa_nil))) (se_bi biLen (o.o.fr _ fr_len) (sps_cons (sp_of (se_idx (sp_var 0) se_int)) sps_nil)) se_int)) sss_nil)
abbrev X_law (Pr : Program) (w : World) (K : PySem.W.Frag) (mg : Str → Option Value) (base : Heap) (f : Addr) (cd : Value) (A : Around) (outer : List Env) (s : Shared) (H : Hp) (E : XK) : Cx := cxG Pr w K mg base N_law "law" (defScope st_law) f cd A outer s H E
theorem d_law (o : XS PP k T (X_law Pr w K mg base f cd A outer s H E) (fun cls d _ H2 => E cls d H2)) (LF : lms = [] ∨ LamF T (X_law Pr w K mg base f cd A outer s H E) lms) (CF : CapF T (X_law Pr w K mg base f cd A outer s H E) caps) (ml : LmsOk Pr w K mg PP T) : SSs PP k T (X_law Pr w K mg base f cd A outer s H E) (fun cls d _ H2 => E cls d H2) (defBody st_law) js_law :=
  (sss_cons (ss_set 1 o.o.nd (se_call o.o lk__law_pen (sa_cons (se_var 0) sa_nil))) (sss_cons (ss_for o (si_rng1 (o.o.fr _ fr_range) se_int) (pg1 2 o.o.nd) (sss_cons (ss_setT o.o.calm (sgs_cons (sg_nm 3 o.o.nd) (sgs_cons (sg_nm 4 o.o.nd) (sgs_cons (sg_nm 5 o.o.nd) sgs_nil))) (se_lc o.o (⟨(si_rng1 (o.o.fr _ fr_range) se_int), blkOk_by (own := [("k", 15)]) (by kernel_rfl), fun _ _ _ _ _ o1 => (pg1 15 o1.nd), fun _ _ _ _ _ o1 => sif_nil, fun _ _ _ _ _ o1 => (se_call o1 lk__law_draw (sa_cons (se_var 1) (sa_cons se_int sa_nil))), by decide, by intro _; rfl⟩))) (sss_cons (ss_par3 6 7 8 o.o (sa_cons (se_call o.o lk__law_some_table (sa_cons (se_var 1) (sa_cons (se_var 3) (sa_cons (se_var 4) sa_nil)))) (sa_cons (se_call o.o lk__law_some_table (sa_cons (se_var 1) (sa_cons (se_var 3) (sa_cons (se_var 4) sa_nil)))) (sa_cons (se_call o.o lk__law_some_table (sa_cons (se_var 1) (sa_cons (se_var 4) (sa_cons (se_var 5) sa_nil)))) sa_nil)))) (sss_cons (ss_set 9 o.o.nd (se_call o.o lk__law_ratio (sa_cons (se_var 1) (sa_cons se_int sa_nil)))) (sss_cons (ss_if (st_cmp (opNe o.o.hu) (sp_of (se_bi (biRepr o.o.grd o.o.hu) (o.o.fr _ fr_repr) (sps_cons (sp_of (se_call o.o lk_table_sum (sa_cons (se_call o.o lk__law_handed_table (sa_cons (se_var 1) (sa_cons (se_var 6) sa_nil))) (sa_cons (se_call o.o lk__law_handed_table (sa_cons (se_var 1) (sa_cons (se_var 7) sa_nil))) sa_nil)))) sps_nil))) (sp_of (se_bi (biRepr o.o.grd o.o.hu) (o.o.fr _ fr_repr) (sps_cons (sp_of (se_call o.o lk__law_table_sum (sa_cons (se_var 6) (sa_cons (se_var 7) sa_nil)))) sps_nil)))) (sss_cons (ss_ret se_bl) sss_nil) sss_nil) (sss_cons (ss_if (st_cmp (opNe o.o.hu) (sp_of (se_bi (biRepr o.o.grd o.o.hu) (o.o.fr _ fr_repr) (sps_cons (sp_of (se_call o.o lk_table_less (sa_cons (se_call o.o lk__law_handed_table (sa_cons (se_var 1) (sa_cons (se_var 6) sa_nil))) (sa_cons (se_call o.o lk__law_handed_table (sa_cons (se_var 1) (sa_cons (se_var 7) sa_nil))) sa_nil)))) sps_nil))) (sp_of (se_bi (biRepr o.o.grd o.o.hu) (o.o.fr _ fr_repr) (sps_cons (sp_of (se_biT biTuple (o.o.fr _ fr_tuple) (sps_cons (sp_of (se_lc o.o (⟨(si_zip (o.o.fr _ fr_zip) (sp_var 6) (sp_var 7)), blkOk_by (own := [("a", 24), ("b", 25)]) (by kernel_rfl), fun _ _ _ _ _ o2 => (pgT o2.calm (pgn_cons 24 o2.nd (pgn_cons 25 o2.nd pgn_nil))), fun _ _ _ _ _ o2 => sif_nil, fun _ _ _ _ _ o2 => (se_call o2 lk__law_add (sa_cons (se_var 24) (sa_cons (se_call o2 lk__law_scaled (sa_cons (se_var 25) (sa_cons (se_tup (sa_cons (se_neg se_int) (sa_cons se_int sa_nil))) sa_nil))) sa_nil))), by decide, by intro _; rfl⟩))) sps_nil))) sps_nil)))) (sss_cons (ss_ret se_bl) sss_nil) sss_nil) (sss_cons (ss_if (st_cmp (opNe o.o.hu) (sp_of (se_bi (biRepr o.o.grd o.o.hu) (o.o.fr _ fr_repr) (sps_cons (sp_of (se_call o.o lk_table_times (sa_cons (se_call o.o lk__law_handed_table (sa_cons (se_var 1) (sa_cons (se_var 6) sa_nil))) (sa_cons (se_call o.o lk__law_handed (sa_cons (se_var 1) (sa_cons (se_var 9) sa_nil))) sa_nil)))) sps_nil))) (sp_of (se_bi (biRepr o.o.grd o.o.hu) (o.o.fr _ fr_repr) (sps_cons (sp_of (se_biT biTuple (o.o.fr _ fr_tuple) (sps_cons (sp_of (se_lc o.o (⟨(si_sq (sp_var 6)), blkOk_by (own := [("row", 26)]) (by kernel_rfl), fun _ _ _ _ _ o3 => (pg1 26 o3.nd), fun _ _ _ _ _ o3 => sif_nil, fun _ _ _ _ _ o3 => (se_call o3 lk__law_scaled (sa_cons (se_var 26) (sa_cons (se_var 9) sa_nil))), by decide, by intro _; rfl⟩))) sps_nil))) sps_nil)))) (sss_cons (ss_ret se_bl) sss_nil) sss_nil) (sss_cons (ss_set 10 o.o.nd (se_call o.o lk_table_product (sa_cons (se_call o.o lk__law_handed_table (sa_cons (se_var 1) (sa_cons (se_var 6) sa_nil))) (sa_cons (se_call o.o lk__law_handed_table (sa_cons (se_var 1) (sa_cons (se_var 8) sa_nil))) sa_nil)))) (sss_cons (ss_if (st_cmp (opNe o.o.hu) (sp_of (se_bi (biRepr o.o.grd o.o.hu) (o.o.fr _ fr_repr) (sps_cons (sp_var 10) sps_nil))) (sp_of (se_bi (biRepr o.o.grd o.o.hu) (o.o.fr _ fr_repr) (sps_cons (sp_of (se_call o.o lk__law_product (sa_cons (se_var 6) (sa_cons (se_var 8) (sa_cons (se_call o.o lk__law_wide (sa_cons (se_var 8) sa_nil)) sa_nil))))) sps_nil)))) (sss_cons (ss_ret se_bl) sss_nil) sss_nil) (sss_cons (ss_if (st_cmp (opNe o.o.hu) (sp_of (se_bi (biRepr o.o.grd o.o.hu) (o.o.fr _ fr_repr) (sps_cons (sp_of (se_call o.o lk_turned_over (sa_cons (se_call o.o lk__law_handed_table (sa_cons (se_var 1) (sa_cons (se_var 6) sa_nil))) sa_nil))) sps_nil))) (sp_of (se_bi (biRepr o.o.grd o.o.hu) (o.o.fr _ fr_repr) (sps_cons (sp_of (se_call o.o lk__law_turned (sa_cons (se_var 6) (sa_cons (se_call o.o lk__law_wide (sa_cons (se_var 6) sa_nil)) sa_nil)))) sps_nil)))) (sss_cons (ss_ret se_bl) sss_nil) sss_nil) (sss_cons (ss_if (st_bool (sw_and (st_cmp opGt (sp_var 3) (sp_of se_int)) (sw_and (st_cmp opGt (sp_var 4) (sp_of se_int)) (sw_and (st_cmp opGt (sp_var 5) (sp_of se_int)) (sw_and1 (st_cmp (opNe o.o.hu) (sp_of (se_call o.o lk_turned_over (sa_cons (se_var 10) sa_nil))) (sp_of (se_call o.o lk_table_product (sa_cons (se_call o.o lk_turned_over (sa_cons (se_var 8) sa_nil)) (sa_cons (se_call o.o lk_turned_over (sa_cons (se_var 6) sa_nil)) sa_nil)))))))))) (sss_cons (ss_ret se_bl) sss_nil) sss_nil) (sss_cons (ss_par2 11 12 o.o (sa_cons (se_call o.o lk__law_some_table (sa_cons (se_var 1) (sa_cons (se_var 3) (sa_cons (se_var 3) sa_nil)))) (sa_cons (se_var 3) sa_nil))) (sss_cons (ss_if (st_bool (sw_or (st_cmp (opNe o.o.hu) (sp_of (se_bi (biRepr o.o.grd o.o.hu) (o.o.fr _ fr_repr) (sps_cons (sp_of (se_call o.o lk_unit_table (sa_cons (se_var 12) sa_nil))) sps_nil))) (sp_of (se_bi (biRepr o.o.grd o.o.hu) (o.o.fr _ fr_repr) (sps_cons (sp_of (se_call o.o lk__law_unit (sa_cons (se_var 12) sa_nil))) sps_nil)))) (sw_or1 (st_cmp (opNe o.o.hu) (sp_of (se_call o.o lk_table_product (sa_cons (se_call o.o lk_unit_table (sa_cons (se_var 12) sa_nil)) (sa_cons (se_var 11) sa_nil)))) (sp_var 11))))) (sss_cons (ss_ret se_bl) sss_nil) sss_nil) (sss_cons (ss_par2 13 14 o.o (sa_cons (se_call o.o lk__law_draw (sa_cons (se_var 1) (sa_cons se_int sa_nil))) (sa_cons (se_call o.o lk__law_unit (sa_cons (se_var 12) sa_nil)) sa_nil))) (sss_cons (ss_for o (si_rng1 (o.o.fr _ fr_range) (se_var 13)) (pg1 15 o.o.nd) (sss_cons (ss_set 14 o.o.nd (se_call o.o lk__law_product (sa_cons (se_var 14) (sa_cons (se_var 11) (sa_cons (se_var 12) sa_nil))))) sss_nil)) (sss_cons (ss_if (st_bool (sw_or (st_cmp (opNe o.o.hu) (sp_of (se_bi (biRepr o.o.grd o.o.hu) (o.o.fr _ fr_repr) (sps_cons (sp_of (se_call o.o lk_table_power (sa_cons (se_call o.o lk__law_handed_table (sa_cons (se_var 1) (sa_cons (se_var 11) sa_nil))) (sa_cons (se_var 13) sa_nil)))) sps_nil))) (sp_of (se_bi (biRepr o.o.grd o.o.hu) (o.o.fr _ fr_repr) (sps_cons (sp_var 14) sps_nil)))) (sw_or1 (st_cmp (opNe o.o.hu) (sp_of (se_call o.o lk_table_product (sa_cons (se_call o.o lk_table_power (sa_cons (se_var 11) (sa_cons (se_var 13) sa_nil))) (sa_cons (se_var 11) sa_nil)))) (sp_of (se_call o.o lk_table_power (sa_cons (se_var 11) (sa_cons (se_bin opAdd (sp_var 13) (sp_of se_int)) sa_nil)))))))) (sss_cons (ss_ret se_bl) sss_nil) sss_nil) (sss_cons (ss_if (st_cmp (opNe o.o.hu) (sp_of (se_call o.o lk_table_sum (sa_cons (se_call o.o lk_table_product (sa_cons (se_var 11) (sa_cons (se_var 6) sa_nil))) (sa_cons (se_call o.o lk_table_product (sa_cons (se_var 11) (sa_cons (se_var 7) sa_nil))) sa_nil)))) (sp_of (se_call o.o lk_table_product (sa_cons (se_var 11) (sa_cons (se_call o.o lk_table_sum (sa_cons (se_var 6) (sa_cons (se_var 7) sa_nil))) sa_nil))))) (sss_cons (ss_ret se_bl) sss_nil) sss_nil) sss_nil))))))))))))))))) (sss_cons (ss_setT o.o.calm (sgs_cons (sg_nm 16 o.o.nd) (sgs_cons (sg_nm 17 o.o.nd) (sgs_cons (sg_nm 18 o.o.nd) sgs_nil))) (se_tup (sa_cons (se_call o.o lk__law_bad_table (sa_cons (se_var 1) sa_nil)) (sa_cons (se_call o.o lk__law_pick (sa_cons (se_var 1) (sa_cons (se_lst (sa_cons se_non (sa_cons se_str (sa_cons (se_tup (sa_cons se_int (sa_cons se_int sa_nil))) (sa_cons (se_tup (sa_cons se_int sa_nil)) (sa_cons se_bl sa_nil)))))) sa_nil))) (sa_cons (se_call o.o lk__law_pick (sa_cons (se_var 1) (sa_cons (se_lst (sa_cons (se_neg se_int) (sa_cons se_int (sa_cons se_non (sa_cons se_bl (sa_cons se_str sa_nil)))))) sa_nil))) sa_nil))))) (sss_cons (ss_setT o.o.calm (sgs_cons (sg_nm 19 o.o.nd) (sgs_cons (sg_nm 20 o.o.nd) sgs_nil)) (se_tup (sa_cons (se_tup (sa_cons (se_tup (sa_cons se_int (sa_cons se_int sa_nil))) sa_nil)) (sa_cons (se_call o.o lk__law_pick (sa_cons (se_var 1) (sa_cons (se_lst (sa_cons (se_tup (sa_cons (se_tup (sa_cons se_int sa_nil)) sa_nil)) (sa_cons (se_tup (sa_cons (se_tup (sa_cons se_int (sa_cons se_int sa_nil))) (sa_cons (se_tup (sa_cons se_int (sa_cons se_int sa_nil))) sa_nil))) (sa_cons (se_tup sa_nil) (sa_cons (se_tup (sa_cons (se_tup (sa_cons se_int (sa_cons se_int (sa_cons se_int sa_nil)))) sa_nil)) sa_nil))))) sa_nil))) sa_nil)))) (sss_cons (ss_for o (si_sq (sp_of (se_tup (sa_cons (se_glb (o.o.gl _ _ gl_table_sum)) (sa_cons (se_glb (o.o.gl _ _ gl_table_less)) sa_nil))))) (pg1 21 o.o.nd) (sss_cons (ss_set 22 o.o.nd (se_lst (sa_cons (se_tup (sa_cons (se_lam (LF.resolve_left lms_ne) lk_lam0) (sa_cons (se_tup (sa_cons se_str (sa_cons (se_var 16) sa_nil))) sa_nil))) sa_nil))) (sss_cons (ss_ex (se_app (j := 22) (se_tup (sa_cons (se_lam (LF.resolve_left lms_ne) lk_lam1) (sa_cons (se_tup (sa_cons se_str (sa_cons (se_var 16) sa_nil))) sa_nil))))) (sss_cons (ss_ex (se_app (j := 22) (se_tup (sa_cons (se_lam (LF.resolve_left lms_ne) lk_lam2) (sa_cons (se_tup (sa_cons se_str (sa_cons se_str sa_nil))) sa_nil))))) (sss_cons (ss_if (st_nt (st_tru (sp_of (se_callc o.o CF lk__law_tables_due (sa_cons (se_var 22) sa_nil))))) (sss_cons (ss_ret se_bl) sss_nil) sss_nil) sss_nil))))) (sss_cons (ss_set 23 o.o.nd (se_call o.o lk__law_pick (sa_cons (se_var 1) (sa_cons (se_lst (sa_cons (se_tup (sa_cons (se_tup (sa_cons se_int sa_nil)) sa_nil)) (sa_cons (se_tup sa_nil) (sa_cons (se_bin opMul (sp_of (se_tup (sa_cons (se_tup (sa_cons se_int (sa_cons se_int sa_nil))) sa_nil))) (sp_of se_int)) sa_nil)))) sa_nil)))) (sss_cons (ss_set 22 o.o.nd (se_lst (sa_cons (se_tup (sa_cons (se_lam (LF.resolve_left lms_ne) lk_lam3) (sa_cons (se_tup (sa_cons se_str (sa_cons (se_var 16) sa_nil))) sa_nil))) sa_nil))) (sss_cons (ss_ex (se_app (j := 22) (se_tup (sa_cons (se_lam (LF.resolve_left lms_ne) lk_lam4) (sa_cons (se_tup (sa_cons se_str (sa_cons (se_var 16) sa_nil))) sa_nil))))) (sss_cons (ss_ex (se_app (j := 22) (se_tup (sa_cons (se_lam (LF.resolve_left lms_ne) lk_lam5) (sa_cons (se_tup (sa_cons se_str (sa_cons se_str sa_nil))) sa_nil))))) (sss_cons (ss_ex (se_app (j := 22) (se_tup (sa_cons (se_lam (LF.resolve_left lms_ne) lk_lam6) (sa_cons (se_tup (sa_cons se_str (sa_cons (se_var 16) sa_nil))) sa_nil))))) (sss_cons (ss_ex (se_app (j := 22) (se_tup (sa_cons (se_lam (LF.resolve_left lms_ne) lk_lam7) (sa_cons (se_tup (sa_cons se_str (sa_cons se_str (sa_cons (se_var 17) sa_nil)))) sa_nil))))) (sss_cons (ss_ex (se_app (j := 22) (se_tup (sa_cons (se_lam (LF.resolve_left lms_ne) lk_lam8) (sa_cons (se_tup (sa_cons se_str (sa_cons (se_var 16) sa_nil))) sa_nil))))) (sss_cons (ss_ex (se_app (j := 22) (se_tup (sa_cons (se_lam (LF.resolve_left lms_ne) lk_lam9) (sa_cons (se_tup (sa_cons se_str (sa_cons se_str (sa_cons (se_var 18) sa_nil)))) sa_nil))))) (sss_cons (ss_ex (se_app (j := 22) (se_tup (sa_cons (se_lam (LF.resolve_left lms_ne) lk_lam10) (sa_cons (se_tup (sa_cons se_str (sa_cons (se_var 16) sa_nil))) sa_nil))))) (sss_cons (ss_ex (se_app (j := 22) (se_tup (sa_cons (se_lam (LF.resolve_left lms_ne) lk_lam11) (sa_cons (se_tup (sa_cons se_str (sa_cons se_str sa_nil))) sa_nil))))) (sss_cons (ss_ex (se_app (j := 22) (se_tup (sa_cons (se_lam (LF.resolve_left lms_ne) lk_lam12) (sa_cons (se_tup (sa_cons se_str (sa_cons se_str (sa_cons (se_var 18) sa_nil)))) sa_nil))))) (sss_cons (ss_ret (se_callc o.o CF lk__law_tables_due (sa_cons (se_var 22) sa_nil))) sss_nil)))))))))))))))))
theorem l_0 (o : XO PP k T (lmCx Pr w K mg base N_law A outer s H E ⟨qu, la_0.1, la_0.2.1, la_0.2.2, cl⟩ f c) (fun cls d _ H2 => E cls d H2)) : SE PP k T (lmCx Pr w K mg base N_law A outer s H E ⟨qu, la_0.1, la_0.2.1, la_0.2.2, cl⟩ f c) (fun cls d _ H2 => E cls d H2) la_0.2.1 lm_0.body :=
  (se_callv o (sa_cons (se_var 16) (sa_cons (se_var 16) sa_nil)))
theorem l_1 (o : XO PP k T (lmCx Pr w K mg base N_law A outer s H E ⟨qu, la_1.1, la_1.2.1, la_1.2.2, cl⟩ f c) (fun cls d _ H2 => E cls d H2)) : SE PP k T (lmCx Pr w K mg base N_law A outer s H E ⟨qu, la_1.1, la_1.2.1, la_1.2.2, cl⟩ f c) (fun cls d _ H2 => E cls d H2) la_1.2.1 lm_1.body :=
  (se_callv o (sa_cons (se_var 19) (sa_cons (se_var 16) sa_nil)))
theorem l_2 (o : XO PP k T (lmCx Pr w K mg base N_law A outer s H E ⟨qu, la_2.1, la_2.2.1, la_2.2.2, cl⟩ f c) (fun cls d _ H2 => E cls d H2)) : SE PP k T (lmCx Pr w K mg base N_law A outer s H E ⟨qu, la_2.1, la_2.2.1, la_2.2.2, cl⟩ f c) (fun cls d _ H2 => E cls d H2) la_2.2.1 lm_2.body :=
  (se_callv o (sa_cons (se_var 19) (sa_cons (se_var 20) sa_nil)))
theorem l_3 (o : XO PP k T (lmCx Pr w K mg base N_law A outer s H E ⟨qu, la_3.1, la_3.2.1, la_3.2.2, cl⟩ f c) (fun cls d _ H2 => E cls d H2)) : SE PP k T (lmCx Pr w K mg base N_law A outer s H E ⟨qu, la_3.1, la_3.2.1, la_3.2.2, cl⟩ f c) (fun cls d _ H2 => E cls d H2) la_3.2.1 lm_3.body :=
  (se_call o lk_table_product (sa_cons (se_var 16) (sa_cons (se_var 16) sa_nil)))
theorem l_4 (o : XO PP k T (lmCx Pr w K mg base N_law A outer s H E ⟨qu, la_4.1, la_4.2.1, la_4.2.2, cl⟩ f c) (fun cls d _ H2 => E cls d H2)) : SE PP k T (lmCx Pr w K mg base N_law A outer s H E ⟨qu, la_4.1, la_4.2.1, la_4.2.2, cl⟩ f c) (fun cls d _ H2 => E cls d H2) la_4.2.1 lm_4.body :=
  (se_call o lk_table_product (sa_cons (se_var 19) (sa_cons (se_var 16) sa_nil)))
theorem l_5 (o : XO PP k T (lmCx Pr w K mg base N_law A outer s H E ⟨qu, la_5.1, la_5.2.1, la_5.2.2, cl⟩ f c) (fun cls d _ H2 => E cls d H2)) : SE PP k T (lmCx Pr w K mg base N_law A outer s H E ⟨qu, la_5.1, la_5.2.1, la_5.2.2, cl⟩ f c) (fun cls d _ H2 => E cls d H2) la_5.2.1 lm_5.body :=
  (se_call o lk_table_product (sa_cons (se_var 19) (sa_cons (se_var 23) sa_nil)))
theorem l_6 (o : XO PP k T (lmCx Pr w K mg base N_law A outer s H E ⟨qu, la_6.1, la_6.2.1, la_6.2.2, cl⟩ f c) (fun cls d _ H2 => E cls d H2)) : SE PP k T (lmCx Pr w K mg base N_law A outer s H E ⟨qu, la_6.1, la_6.2.1, la_6.2.2, cl⟩ f c) (fun cls d _ H2 => E cls d H2) la_6.2.1 lm_6.body :=
  (se_call o lk_table_times (sa_cons (se_var 16) (sa_cons (se_var 17) sa_nil)))
theorem l_7 (o : XO PP k T (lmCx Pr w K mg base N_law A outer s H E ⟨qu, la_7.1, la_7.2.1, la_7.2.2, cl⟩ f c) (fun cls d _ H2 => E cls d H2)) : SE PP k T (lmCx Pr w K mg base N_law A outer s H E ⟨qu, la_7.1, la_7.2.1, la_7.2.2, cl⟩ f c) (fun cls d _ H2 => E cls d H2) la_7.2.1 lm_7.body :=
  (se_call o lk_table_times (sa_cons (se_var 19) (sa_cons (se_var 17) sa_nil)))
theorem l_8 (o : XO PP k T (lmCx Pr w K mg base N_law A outer s H E ⟨qu, la_8.1, la_8.2.1, la_8.2.2, cl⟩ f c) (fun cls d _ H2 => E cls d H2)) : SE PP k T (lmCx Pr w K mg base N_law A outer s H E ⟨qu, la_8.1, la_8.2.1, la_8.2.2, cl⟩ f c) (fun cls d _ H2 => E cls d H2) la_8.2.1 lm_8.body :=
  (se_call o lk_turned_over (sa_cons (se_var 16) sa_nil))
theorem l_9 (o : XO PP k T (lmCx Pr w K mg base N_law A outer s H E ⟨qu, la_9.1, la_9.2.1, la_9.2.2, cl⟩ f c) (fun cls d _ H2 => E cls d H2)) : SE PP k T (lmCx Pr w K mg base N_law A outer s H E ⟨qu, la_9.1, la_9.2.1, la_9.2.2, cl⟩ f c) (fun cls d _ H2 => E cls d H2) la_9.2.1 lm_9.body :=
  (se_call o lk_unit_table (sa_cons (se_var 18) sa_nil))
theorem l_10 (o : XO PP k T (lmCx Pr w K mg base N_law A outer s H E ⟨qu, la_10.1, la_10.2.1, la_10.2.2, cl⟩ f c) (fun cls d _ H2 => E cls d H2)) : SE PP k T (lmCx Pr w K mg base N_law A outer s H E ⟨qu, la_10.1, la_10.2.1, la_10.2.2, cl⟩ f c) (fun cls d _ H2 => E cls d H2) la_10.2.1 lm_10.body :=
  (se_call o lk_table_power (sa_cons (se_var 16) (sa_cons (se_var 18) sa_nil)))
theorem l_11 (o : XO PP k T (lmCx Pr w K mg base N_law A outer s H E ⟨qu, la_11.1, la_11.2.1, la_11.2.2, cl⟩ f c) (fun cls d _ H2 => E cls d H2)) : SE PP k T (lmCx Pr w K mg base N_law A outer s H E ⟨qu, la_11.1, la_11.2.1, la_11.2.2, cl⟩ f c) (fun cls d _ H2 => E cls d H2) la_11.2.1 lm_11.body :=
  (se_call o lk_table_power (sa_cons (se_var 19) (sa_cons (se_var 18) sa_nil)))
theorem l_12 (o : XO PP k T (lmCx Pr w K mg base N_law A outer s H E ⟨qu, la_12.1, la_12.2.1, la_12.2.2, cl⟩ f c) (fun cls d _ H2 => E cls d H2)) : SE PP k T (lmCx Pr w K mg base N_law A outer s H E ⟨qu, la_12.1, la_12.2.1, la_12.2.2, cl⟩ f c) (fun cls d _ H2 => E cls d H2) la_12.2.1 lm_12.body :=
  (se_call o lk_table_power (sa_cons (se_tup (sa_cons (se_tup (sa_cons se_int sa_nil)) sa_nil)) (sa_cons (se_var 18) sa_nil)))
end
section
variable {Pr : Program} {w : World} {K : PySem.W.Frag} {mg : Str → Option Value} {base : Heap} {f : Addr} {fd : FuncData}
theorem i_is_whole (F : FunD K "is_whole" "is_whole" (defArgs st_is_whole) (defBody st_is_whole) (defScope st_is_whole) [] [] f fd) (hm : mg "is_whole" = some (.ref f)) : DefIn Pr w K mg PP "is_whole" df_is_whole :=
  ⟨_, _, _, _, f, fd, N_is_whole, ["value"], F, ⟨rfl, rfl, rfl, by decide +kernel, rfl, by decide +kernel, by decide +kernel⟩, rfl, rfl, by decide, fun _ _ _ _ _ _ us hl => match us, hl with | [_], _ => rfl, hm, fun _ _ _ _ _ _ _ _ _ ml o => d_is_whole ml o⟩
theorem i_in_tuples (F : FunD K "in_tuples" "in_tuples" (defArgs st_in_tuples) (defBody st_in_tuples) (defScope st_in_tuples) [] [] f fd) (hm : mg "in_tuples" = some (.ref f)) : DefIn Pr w K mg PP "in_tuples" df_in_tuples :=
  ⟨_, _, _, _, f, fd, N_in_tuples, ["value"], F, ⟨rfl, rfl, rfl, by decide +kernel, rfl, by decide +kernel, by decide +kernel⟩, rfl, rfl, by decide, fun _ _ _ _ _ _ us hl => match us, hl with | [_], _ => rfl, hm, fun _ _ _ _ _ _ _ _ _ ml o => d_in_tuples ml o⟩
theorem i_need_between (F : FunD K "need_between" "need_between" (defArgs st_need_between) (defBody st_need_between) (defScope st_need_between) [] [] f fd) (hm : mg "need_between" = some (.ref f)) : DefIn Pr w K mg PP "need_between" df_need_between :=
  ⟨_, _, _, _, f, fd, N_need_between, ["what", "number", "low", "high"], F, ⟨rfl, rfl, rfl, by decide +kernel, rfl, by decide +kernel, by decide +kernel⟩, rfl, rfl, by decide, fun _ _ _ _ _ _ us hl => match us, hl with | [_, _, _, _], _ => rfl, hm, fun _ _ _ _ _ _ _ _ _ ml o => d_need_between ml o⟩
theorem i_is_pair (F : FunD K "is_pair" "is_pair" (defArgs st_is_pair) (defBody st_is_pair) (defScope st_is_pair) [] [] f fd) (hm : mg "is_pair" = some (.ref f)) : DefIn Pr w K mg PP "is_pair" df_is_pair :=
  ⟨_, _, _, _, f, fd, N_is_pair, ["value"], F, ⟨rfl, rfl, rfl, by decide +kernel, rfl, by decide +kernel, by decide +kernel⟩, rfl, rfl, by decide, fun _ _ _ _ _ _ us hl => match us, hl with | [_], _ => rfl, hm, fun _ _ _ _ _ _ _ _ _ ml o => d_is_pair ml o⟩
theorem i_is_ratio (F : FunD K "is_ratio" "is_ratio" (defArgs st_is_ratio) (defBody st_is_ratio) (defScope st_is_ratio) [] [] f fd) (hm : mg "is_ratio" = some (.ref f)) : DefIn Pr w K mg PP "is_ratio" df_is_ratio :=
  ⟨_, _, _, _, f, fd, N_is_ratio, ["value"], F, ⟨rfl, rfl, rfl, by decide +kernel, rfl, by decide +kernel, by decide +kernel⟩, rfl, rfl, by decide, fun _ _ _ _ _ _ us hl => match us, hl with | [_], _ => rfl, hm, fun _ _ _ _ _ _ _ _ _ ml o => d_is_ratio ml o⟩
theorem i_lowest (F : FunD K "lowest" "lowest" (defArgs st_lowest) (defBody st_lowest) (defScope st_lowest) [] [] f fd) (hm : mg "lowest" = some (.ref f)) : DefIn Pr w K mg PP "lowest" df_lowest :=
  ⟨_, _, _, _, f, fd, N_lowest, ["top", "bottom"], F, ⟨rfl, rfl, rfl, by decide +kernel, rfl, by decide +kernel, by decide +kernel⟩, rfl, rfl, by decide, fun _ _ _ _ _ _ us hl => match us, hl with | [_, _], _ => rfl, hm, fun _ _ _ _ _ _ _ _ _ ml o => d_lowest ml o⟩
theorem i_told (F : FunD K "told" "told" (defArgs st_told) (defBody st_told) (defScope st_told) [] [] f fd) (hm : mg "told" = some (.ref f)) : DefIn Pr w K mg PP "told" df_told :=
  ⟨_, _, _, _, f, fd, N_told, ["ratio"], F, ⟨rfl, rfl, rfl, by decide +kernel, rfl, by decide +kernel, by decide +kernel⟩, rfl, rfl, by decide, fun _ _ _ _ _ _ us hl => match us, hl with | [_], _ => rfl, hm, fun _ _ _ _ _ _ _ _ _ ml o => d_told ml o⟩
theorem i_summed (F : FunD K "summed" "summed" (defArgs st_summed) (defBody st_summed) (defScope st_summed) [] [] f fd) (hm : mg "summed" = some (.ref f)) : DefIn Pr w K mg PP "summed" df_summed :=
  ⟨_, _, _, _, f, fd, N_summed, ["one", "other"], F, ⟨rfl, rfl, rfl, by decide +kernel, rfl, by decide +kernel, by decide +kernel⟩, rfl, rfl, by decide, fun _ _ _ _ _ _ us hl => match us, hl with | [_, _], _ => rfl, hm, fun _ _ _ _ _ _ _ _ _ ml o => d_summed ml o⟩
theorem i_scaled (F : FunD K "scaled" "scaled" (defArgs st_scaled) (defBody st_scaled) (defScope st_scaled) [] [] f fd) (hm : mg "scaled" = some (.ref f)) : DefIn Pr w K mg PP "scaled" df_scaled :=
  ⟨_, _, _, _, f, fd, N_scaled, ["one", "other"], F, ⟨rfl, rfl, rfl, by decide +kernel, rfl, by decide +kernel, by decide +kernel⟩, rfl, rfl, by decide, fun _ _ _ _ _ _ us hl => match us, hl with | [_, _], _ => rfl, hm, fun _ _ _ _ _ _ _ _ _ ml o => d_scaled ml o⟩
theorem i_is_loose_row (F : FunD K "is_loose_row" "is_loose_row" (defArgs st_is_loose_row) (defBody st_is_loose_row) (defScope st_is_loose_row) [] [] f fd) (hm : mg "is_loose_row" = some (.ref f)) : DefIn Pr w K mg PP "is_loose_row" df_is_loose_row :=
  ⟨_, _, _, _, f, fd, N_is_loose_row, ["value"], F, ⟨rfl, rfl, rfl, by decide +kernel, rfl, by decide +kernel, by decide +kernel⟩, rfl, rfl, by decide, fun _ _ _ _ _ _ us hl => match us, hl with | [_], _ => rfl, hm, fun _ _ _ _ _ _ _ _ _ ml o => d_is_loose_row ml o⟩
theorem i_table_or_none (F : FunD K "table_or_none" "table_or_none" (defArgs st_table_or_none) (defBody st_table_or_none) (defScope st_table_or_none) [] [] f fd) (hm : mg "table_or_none" = some (.ref f)) : DefIn Pr w K mg PP "table_or_none" df_table_or_none :=
  ⟨_, _, _, _, f, fd, N_table_or_none, ["table"], F, ⟨rfl, rfl, rfl, by decide +kernel, rfl, by decide +kernel, by decide +kernel⟩, rfl, rfl, by decide, fun _ _ _ _ _ _ us hl => match us, hl with | [_], _ => rfl, hm, fun _ _ _ _ _ _ _ _ _ ml o => d_table_or_none ml o⟩
theorem i_table_from (F : FunD K "table_from" "table_from" (defArgs st_table_from) (defBody st_table_from) (defScope st_table_from) [] [] f fd) (hm : mg "table_from" = some (.ref f)) : DefIn Pr w K mg PP "table_from" df_table_from :=
  ⟨_, _, _, _, f, fd, N_table_from, ["table"], F, ⟨rfl, rfl, rfl, by decide +kernel, rfl, by decide +kernel, by decide +kernel⟩, rfl, rfl, by decide, fun _ _ _ _ _ _ us hl => match us, hl with | [_], _ => rfl, hm, fun _ _ _ _ _ _ _ _ _ ml o => d_table_from ml o⟩
theorem i_two_from (F : FunD K "two_from" "two_from" (defArgs st_two_from) (defBody st_two_from) (defScope st_two_from) [] [] f fd) (hm : mg "two_from" = some (.ref f)) : DefIn Pr w K mg PP "two_from" df_two_from :=
  ⟨_, _, _, _, f, fd, N_two_from, ["one", "other"], F, ⟨rfl, rfl, rfl, by decide +kernel, rfl, by decide +kernel, by decide +kernel⟩, rfl, rfl, by decide, fun _ _ _ _ _ _ us hl => match us, hl with | [_, _], _ => rfl, hm, fun _ _ _ _ _ _ _ _ _ ml o => d_two_from ml o⟩
theorem i_width_of (F : FunD K "width_of" "width_of" (defArgs st_width_of) (defBody st_width_of) (defScope st_width_of) [] [] f fd) (hm : mg "width_of" = some (.ref f)) : DefIn Pr w K mg PP "width_of" df_width_of :=
  ⟨_, _, _, _, f, fd, N_width_of, ["table"], F, ⟨rfl, rfl, rfl, by decide +kernel, rfl, by decide +kernel, by decide +kernel⟩, rfl, rfl, by decide, fun _ _ _ _ _ _ us hl => match us, hl with | [_], _ => rfl, hm, fun _ _ _ _ _ _ _ _ _ ml o => d_width_of ml o⟩
theorem i_need_like (F : FunD K "need_like" "need_like" (defArgs st_need_like) (defBody st_need_like) (defScope st_need_like) [] [] f fd) (hm : mg "need_like" = some (.ref f)) : DefIn Pr w K mg PP "need_like" df_need_like :=
  ⟨_, _, _, _, f, fd, N_need_like, ["one", "other"], F, ⟨rfl, rfl, rfl, by decide +kernel, rfl, by decide +kernel, by decide +kernel⟩, rfl, rfl, by decide, fun _ _ _ _ _ _ us hl => match us, hl with | [_, _], _ => rfl, hm, fun _ _ _ _ _ _ _ _ _ ml o => d_need_like ml o⟩
theorem i_is_square (F : FunD K "is_square" "is_square" (defArgs st_is_square) (defBody st_is_square) (defScope st_is_square) [] [] f fd) (hm : mg "is_square" = some (.ref f)) : DefIn Pr w K mg PP "is_square" df_is_square :=
  ⟨_, _, _, _, f, fd, N_is_square, ["table"], F, ⟨rfl, rfl, rfl, by decide +kernel, rfl, by decide +kernel, by decide +kernel⟩, rfl, rfl, by decide, fun _ _ _ _ _ _ us hl => match us, hl with | [_], _ => rfl, hm, fun _ _ _ _ _ _ _ _ _ ml o => d_is_square ml o⟩
theorem i_square_from (F : FunD K "square_from" "square_from" (defArgs st_square_from) (defBody st_square_from) (defScope st_square_from) [] [] f fd) (hm : mg "square_from" = some (.ref f)) : DefIn Pr w K mg PP "square_from" df_square_from :=
  ⟨_, _, _, _, f, fd, N_square_from, ["table"], F, ⟨rfl, rfl, rfl, by decide +kernel, rfl, by decide +kernel, by decide +kernel⟩, rfl, rfl, by decide, fun _ _ _ _ _ _ us hl => match us, hl with | [_], _ => rfl, hm, fun _ _ _ _ _ _ _ _ _ ml o => d_square_from ml o⟩
theorem i_ratio_from (F : FunD K "ratio_from" "ratio_from" (defArgs st_ratio_from) (defBody st_ratio_from) (defScope st_ratio_from) [] [] f fd) (hm : mg "ratio_from" = some (.ref f)) : DefIn Pr w K mg PP "ratio_from" df_ratio_from :=
  ⟨_, _, _, _, f, fd, N_ratio_from, ["what", "value"], F, ⟨rfl, rfl, rfl, by decide +kernel, rfl, by decide +kernel, by decide +kernel⟩, rfl, rfl, by decide, fun _ _ _ _ _ _ us hl => match us, hl with | [_, _], _ => rfl, hm, fun _ _ _ _ _ _ _ _ _ ml o => d_ratio_from ml o⟩
theorem i_row_plus (F : FunD K "row_plus" "row_plus" (defArgs st_row_plus) (defBody st_row_plus) (defScope st_row_plus) [] [] f fd) (hm : mg "row_plus" = some (.ref f)) : DefIn Pr w K mg PP "row_plus" df_row_plus :=
  ⟨_, _, _, _, f, fd, N_row_plus, ["one", "by", "other"], F, ⟨rfl, rfl, rfl, by decide +kernel, rfl, by decide +kernel, by decide +kernel⟩, rfl, rfl, by decide, fun _ _ _ _ _ _ us hl => match us, hl with | [_, _, _], _ => rfl, hm, fun _ _ _ _ _ _ _ _ _ ml o => d_row_plus ml o⟩
theorem i_sum_by (F : FunD K "sum_by" "sum_by" (defArgs st_sum_by) (defBody st_sum_by) (defScope st_sum_by) [] [] f fd) (hm : mg "sum_by" = some (.ref f)) : DefIn Pr w K mg PP "sum_by" df_sum_by :=
  ⟨_, _, _, _, f, fd, N_sum_by, ["one", "other"], F, ⟨rfl, rfl, rfl, by decide +kernel, rfl, by decide +kernel, by decide +kernel⟩, rfl, rfl, by decide, fun _ _ _ _ _ _ us hl => match us, hl with | [_, _], _ => rfl, hm, fun _ _ _ _ _ _ _ _ _ ml o => d_sum_by ml o⟩
theorem i_less_by (F : FunD K "less_by" "less_by" (defArgs st_less_by) (defBody st_less_by) (defScope st_less_by) [] [] f fd) (hm : mg "less_by" = some (.ref f)) : DefIn Pr w K mg PP "less_by" df_less_by :=
  ⟨_, _, _, _, f, fd, N_less_by, ["one", "other"], F, ⟨rfl, rfl, rfl, by decide +kernel, rfl, by decide +kernel, by decide +kernel⟩, rfl, rfl, by decide, fun _ _ _ _ _ _ us hl => match us, hl with | [_, _], _ => rfl, hm, fun _ _ _ _ _ _ _ _ _ ml o => d_less_by ml o⟩
theorem i_table_sum (F : FunD K "table_sum" "table_sum" (defArgs st_table_sum) (defBody st_table_sum) (defScope st_table_sum) [] [] f fd) (hm : mg "table_sum" = some (.ref f)) : DefIn Pr w K mg PP "table_sum" df_table_sum :=
  ⟨_, _, _, _, f, fd, N_table_sum, ["one", "other"], F, ⟨rfl, rfl, rfl, by decide +kernel, rfl, by decide +kernel, by decide +kernel⟩, rfl, rfl, by decide, fun _ _ _ _ _ _ us hl => match us, hl with | [_, _], _ => rfl, hm, fun _ _ _ _ _ _ _ _ _ ml o => d_table_sum ml o⟩
theorem i_table_less (F : FunD K "table_less" "table_less" (defArgs st_table_less) (defBody st_table_less) (defScope st_table_less) [] [] f fd) (hm : mg "table_less" = some (.ref f)) : DefIn Pr w K mg PP "table_less" df_table_less :=
  ⟨_, _, _, _, f, fd, N_table_less, ["one", "other"], F, ⟨rfl, rfl, rfl, by decide +kernel, rfl, by decide +kernel, by decide +kernel⟩, rfl, rfl, by decide, fun _ _ _ _ _ _ us hl => match us, hl with | [_, _], _ => rfl, hm, fun _ _ _ _ _ _ _ _ _ ml o => d_table_less ml o⟩
theorem i_times_by (F : FunD K "times_by" "times_by" (defArgs st_times_by) (defBody st_times_by) (defScope st_times_by) [] [] f fd) (hm : mg "times_by" = some (.ref f)) : DefIn Pr w K mg PP "times_by" df_times_by :=
  ⟨_, _, _, _, f, fd, N_times_by, ["table", "by"], F, ⟨rfl, rfl, rfl, by decide +kernel, rfl, by decide +kernel, by decide +kernel⟩, rfl, rfl, by decide, fun _ _ _ _ _ _ us hl => match us, hl with | [_, _], _ => rfl, hm, fun _ _ _ _ _ _ _ _ _ ml o => d_times_by ml o⟩
theorem i_table_times (F : FunD K "table_times" "table_times" (defArgs st_table_times) (defBody st_table_times) (defScope st_table_times) [] [] f fd) (hm : mg "table_times" = some (.ref f)) : DefIn Pr w K mg PP "table_times" df_table_times :=
  ⟨_, _, _, _, f, fd, N_table_times, ["table", "by"], F, ⟨rfl, rfl, rfl, by decide +kernel, rfl, by decide +kernel, by decide +kernel⟩, rfl, rfl, by decide, fun _ _ _ _ _ _ us hl => match us, hl with | [_, _], _ => rfl, hm, fun _ _ _ _ _ _ _ _ _ ml o => d_table_times ml o⟩
theorem i_mixed_by (F : FunD K "mixed_by" "mixed_by" (defArgs st_mixed_by) (defBody st_mixed_by) (defScope st_mixed_by) [] [] f fd) (hm : mg "mixed_by" = some (.ref f)) : DefIn Pr w K mg PP "mixed_by" df_mixed_by :=
  ⟨_, _, _, _, f, fd, N_mixed_by, ["shares", "rows", "wide"], F, ⟨rfl, rfl, rfl, by decide +kernel, rfl, by decide +kernel, by decide +kernel⟩, rfl, rfl, by decide, fun _ _ _ _ _ _ us hl => match us, hl with | [_, _, _], _ => rfl, hm, fun _ _ _ _ _ _ _ _ _ ml o => d_mixed_by ml o⟩
theorem i_product_by (F : FunD K "product_by" "product_by" (defArgs st_product_by) (defBody st_product_by) (defScope st_product_by) [] [] f fd) (hm : mg "product_by" = some (.ref f)) : DefIn Pr w K mg PP "product_by" df_product_by :=
  ⟨_, _, _, _, f, fd, N_product_by, ["one", "other"], F, ⟨rfl, rfl, rfl, by decide +kernel, rfl, by decide +kernel, by decide +kernel⟩, rfl, rfl, by decide, fun _ _ _ _ _ _ us hl => match us, hl with | [_, _], _ => rfl, hm, fun _ _ _ _ _ _ _ _ _ ml o => d_product_by ml o⟩
theorem i_table_product (F : FunD K "table_product" "table_product" (defArgs st_table_product) (defBody st_table_product) (defScope st_table_product) [] [] f fd) (hm : mg "table_product" = some (.ref f)) : DefIn Pr w K mg PP "table_product" df_table_product :=
  ⟨_, _, _, _, f, fd, N_table_product, ["one", "other"], F, ⟨rfl, rfl, rfl, by decide +kernel, rfl, by decide +kernel, by decide +kernel⟩, rfl, rfl, by decide, fun _ _ _ _ _ _ us hl => match us, hl with | [_, _], _ => rfl, hm, fun _ _ _ _ _ _ _ _ _ ml o => d_table_product ml o⟩
theorem i_turned_by (F : FunD K "turned_by" "turned_by" (defArgs st_turned_by) (defBody st_turned_by) (defScope st_turned_by) [] [] f fd) (hm : mg "turned_by" = some (.ref f)) : DefIn Pr w K mg PP "turned_by" df_turned_by :=
  ⟨_, _, _, _, f, fd, N_turned_by, ["table"], F, ⟨rfl, rfl, rfl, by decide +kernel, rfl, by decide +kernel, by decide +kernel⟩, rfl, rfl, by decide, fun _ _ _ _ _ _ us hl => match us, hl with | [_], _ => rfl, hm, fun _ _ _ _ _ _ _ _ _ ml o => d_turned_by ml o⟩
theorem i_turned_over (F : FunD K "turned_over" "turned_over" (defArgs st_turned_over) (defBody st_turned_over) (defScope st_turned_over) [] [] f fd) (hm : mg "turned_over" = some (.ref f)) : DefIn Pr w K mg PP "turned_over" df_turned_over :=
  ⟨_, _, _, _, f, fd, N_turned_over, ["table"], F, ⟨rfl, rfl, rfl, by decide +kernel, rfl, by decide +kernel, by decide +kernel⟩, rfl, rfl, by decide, fun _ _ _ _ _ _ us hl => match us, hl with | [_], _ => rfl, hm, fun _ _ _ _ _ _ _ _ _ ml o => d_turned_over ml o⟩
theorem i_unit_row (F : FunD K "unit_row" "unit_row" (defArgs st_unit_row) (defBody st_unit_row) (defScope st_unit_row) [] [] f fd) (hm : mg "unit_row" = some (.ref f)) : DefIn Pr w K mg PP "unit_row" df_unit_row :=
  ⟨_, _, _, _, f, fd, N_unit_row, ["size", "place"], F, ⟨rfl, rfl, rfl, by decide +kernel, rfl, by decide +kernel, by decide +kernel⟩, rfl, rfl, by decide, fun _ _ _ _ _ _ us hl => match us, hl with | [_, _], _ => rfl, hm, fun _ _ _ _ _ _ _ _ _ ml o => d_unit_row ml o⟩
theorem i_unit_by (F : FunD K "unit_by" "unit_by" (defArgs st_unit_by) (defBody st_unit_by) (defScope st_unit_by) [] [] f fd) (hm : mg "unit_by" = some (.ref f)) : DefIn Pr w K mg PP "unit_by" df_unit_by :=
  ⟨_, _, _, _, f, fd, N_unit_by, ["size"], F, ⟨rfl, rfl, rfl, by decide +kernel, rfl, by decide +kernel, by decide +kernel⟩, rfl, rfl, by decide, fun _ _ _ _ _ _ us hl => match us, hl with | [_], _ => rfl, hm, fun _ _ _ _ _ _ _ _ _ ml o => d_unit_by ml o⟩
theorem i_unit_table (F : FunD K "unit_table" "unit_table" (defArgs st_unit_table) (defBody st_unit_table) (defScope st_unit_table) [] [] f fd) (hm : mg "unit_table" = some (.ref f)) : DefIn Pr w K mg PP "unit_table" df_unit_table :=
  ⟨_, _, _, _, f, fd, N_unit_table, ["size"], F, ⟨rfl, rfl, rfl, by decide +kernel, rfl, by decide +kernel, by decide +kernel⟩, rfl, rfl, by decide, fun _ _ _ _ _ _ us hl => match us, hl with | [_], _ => rfl, hm, fun _ _ _ _ _ _ _ _ _ ml o => d_unit_table ml o⟩
theorem i_power_by (F : FunD K "power_by" "power_by" (defArgs st_power_by) (defBody st_power_by) (defScope st_power_by) [] [] f fd) (hm : mg "power_by" = some (.ref f)) : DefIn Pr w K mg PP "power_by" df_power_by :=
  ⟨_, _, _, _, f, fd, N_power_by, ["table", "many"], F, ⟨rfl, rfl, rfl, by decide +kernel, rfl, by decide +kernel, by decide +kernel⟩, rfl, rfl, by decide, fun _ _ _ _ _ _ us hl => match us, hl with | [_, _], _ => rfl, hm, fun _ _ _ _ _ _ _ _ _ ml o => d_power_by ml o⟩
theorem i_table_power (F : FunD K "table_power" "table_power" (defArgs st_table_power) (defBody st_table_power) (defScope st_table_power) [] [] f fd) (hm : mg "table_power" = some (.ref f)) : DefIn Pr w K mg PP "table_power" df_table_power :=
  ⟨_, _, _, _, f, fd, N_table_power, ["table", "many"], F, ⟨rfl, rfl, rfl, by decide +kernel, rfl, by decide +kernel, by decide +kernel⟩, rfl, rfl, by decide, fun _ _ _ _ _ _ us hl => match us, hl with | [_, _], _ => rfl, hm, fun _ _ _ _ _ _ _ _ _ ml o => d_table_power ml o⟩
theorem i__law_pen (F : FunD K "_law_pen" "_law_pen" (defArgs st__law_pen) (defBody st__law_pen) (defScope st__law_pen) [] [] f fd) (hm : mg "_law_pen" = some (.ref f)) : DefIn Pr w K mg PP "_law_pen" df__law_pen :=
  ⟨_, _, _, _, f, fd, N__law_pen, ["script"], F, ⟨rfl, rfl, rfl, by decide +kernel, rfl, by decide +kernel, by decide +kernel⟩, rfl, rfl, by decide, fun _ _ _ _ _ _ us hl => match us, hl with | [_], _ => rfl, hm, fun _ _ _ _ _ _ _ _ _ ml o => d__law_pen ml o⟩
theorem i__law_draw (F : FunD K "_law_draw" "_law_draw" (defArgs st__law_draw) (defBody st__law_draw) (defScope st__law_draw) [] [] f fd) (hm : mg "_law_draw" = some (.ref f)) : DefIn Pr w K mg PP "_law_draw" df__law_draw :=
  ⟨_, _, _, _, f, fd, N__law_draw, ["pen", "many"], F, ⟨rfl, rfl, rfl, by decide +kernel, rfl, by decide +kernel, by decide +kernel⟩, rfl, rfl, by decide, fun _ _ _ _ _ _ us hl => match us, hl with | [_, _], _ => rfl, hm, fun _ _ _ _ _ _ _ _ _ ml o => d__law_draw ml o⟩
theorem i__law_pick (F : FunD K "_law_pick" "_law_pick" (defArgs st__law_pick) (defBody st__law_pick) (defScope st__law_pick) [] [] f fd) (hm : mg "_law_pick" = some (.ref f)) : DefIn Pr w K mg PP "_law_pick" df__law_pick :=
  ⟨_, _, _, _, f, fd, N__law_pick, ["pen", "some"], F, ⟨rfl, rfl, rfl, by decide +kernel, rfl, by decide +kernel, by decide +kernel⟩, rfl, rfl, by decide, fun _ _ _ _ _ _ us hl => match us, hl with | [_, _], _ => rfl, hm, fun _ _ _ _ _ _ _ _ _ ml o => d__law_pick ml o⟩
theorem i__law_gcd (F : FunD K "_law_gcd" "_law_gcd" (defArgs st__law_gcd) (defBody st__law_gcd) (defScope st__law_gcd) [] [] f fd) (hm : mg "_law_gcd" = some (.ref f)) : DefIn Pr w K mg PP "_law_gcd" df__law_gcd :=
  ⟨_, _, _, _, f, fd, N__law_gcd, ["one", "two"], F, ⟨rfl, rfl, rfl, by decide +kernel, rfl, by decide +kernel, by decide +kernel⟩, rfl, rfl, by decide, fun _ _ _ _ _ _ us hl => match us, hl with | [_, _], _ => rfl, hm, fun _ _ _ _ _ _ _ _ _ ml o => d__law_gcd ml o⟩
theorem i__law_q (F : FunD K "_law_q" "_law_q" (defArgs st__law_q) (defBody st__law_q) (defScope st__law_q) [] [] f fd) (hm : mg "_law_q" = some (.ref f)) : DefIn Pr w K mg PP "_law_q" df__law_q :=
  ⟨_, _, _, _, f, fd, N__law_q, ["top", "bottom"], F, ⟨rfl, rfl, rfl, by decide +kernel, rfl, by decide +kernel, by decide +kernel⟩, rfl, rfl, by decide, fun _ _ _ _ _ _ us hl => match us, hl with | [_, _], _ => rfl, hm, fun _ _ _ _ _ _ _ _ _ ml o => d__law_q ml o⟩
theorem i__law_plus (F : FunD K "_law_plus" "_law_plus" (defArgs st__law_plus) (defBody st__law_plus) (defScope st__law_plus) [] [] f fd) (hm : mg "_law_plus" = some (.ref f)) : DefIn Pr w K mg PP "_law_plus" df__law_plus :=
  ⟨_, _, _, _, f, fd, N__law_plus, ["one", "two"], F, ⟨rfl, rfl, rfl, by decide +kernel, rfl, by decide +kernel, by decide +kernel⟩, rfl, rfl, by decide, fun _ _ _ _ _ _ us hl => match us, hl with | [_, _], _ => rfl, hm, fun _ _ _ _ _ _ _ _ _ ml o => d__law_plus ml o⟩
theorem i__law_times (F : FunD K "_law_times" "_law_times" (defArgs st__law_times) (defBody st__law_times) (defScope st__law_times) [] [] f fd) (hm : mg "_law_times" = some (.ref f)) : DefIn Pr w K mg PP "_law_times" df__law_times :=
  ⟨_, _, _, _, f, fd, N__law_times, ["one", "two"], F, ⟨rfl, rfl, rfl, by decide +kernel, rfl, by decide +kernel, by decide +kernel⟩, rfl, rfl, by decide, fun _ _ _ _ _ _ us hl => match us, hl with | [_, _], _ => rfl, hm, fun _ _ _ _ _ _ _ _ _ ml o => d__law_times ml o⟩
theorem i__law_handed (F : FunD K "_law_handed" "_law_handed" (defArgs st__law_handed) (defBody st__law_handed) (defScope st__law_handed) [] [] f fd) (hm : mg "_law_handed" = some (.ref f)) : DefIn Pr w K mg PP "_law_handed" df__law_handed :=
  ⟨_, _, _, _, f, fd, N__law_handed, ["pen", "ratio"], F, ⟨rfl, rfl, rfl, by decide +kernel, rfl, by decide +kernel, by decide +kernel⟩, rfl, rfl, by decide, fun _ _ _ _ _ _ us hl => match us, hl with | [_, _], _ => rfl, hm, fun _ _ _ _ _ _ _ _ _ ml o => d__law_handed ml o⟩
theorem i__law_handed_row (F : FunD K "_law_handed_row" "_law_handed_row" (defArgs st__law_handed_row) (defBody st__law_handed_row) (defScope st__law_handed_row) [] [] f fd) (hm : mg "_law_handed_row" = some (.ref f)) : DefIn Pr w K mg PP "_law_handed_row" df__law_handed_row :=
  ⟨_, _, _, _, f, fd, N__law_handed_row, ["pen", "row"], F, ⟨rfl, rfl, rfl, by decide +kernel, rfl, by decide +kernel, by decide +kernel⟩, rfl, rfl, by decide, fun _ _ _ _ _ _ us hl => match us, hl with | [_, _], _ => rfl, hm, fun _ _ _ _ _ _ _ _ _ ml o => d__law_handed_row ml o⟩
theorem i__law_passed (F : FunD K "_law_passed" "_law_passed" (defArgs st__law_passed) (defBody st__law_passed) (defScope st__law_passed) [] [] f fd) (hm : mg "_law_passed" = some (.ref f)) : DefIn Pr w K mg PP "_law_passed" df__law_passed :=
  ⟨_, _, _, _, f, fd, N__law_passed, ["pen", "row"], F, ⟨rfl, rfl, rfl, by decide +kernel, rfl, by decide +kernel, by decide +kernel⟩, rfl, rfl, by decide, fun _ _ _ _ _ _ us hl => match us, hl with | [_, _], _ => rfl, hm, fun _ _ _ _ _ _ _ _ _ ml o => d__law_passed ml o⟩
theorem i__law_ratio (F : FunD K "_law_ratio" "_law_ratio" (defArgs st__law_ratio) (defBody st__law_ratio) (defScope st__law_ratio) [] [] f fd) (hm : mg "_law_ratio" = some (.ref f)) : DefIn Pr w K mg PP "_law_ratio" df__law_ratio :=
  ⟨_, _, _, _, f, fd, N__law_ratio, ["pen", "most"], F, ⟨rfl, rfl, rfl, by decide +kernel, rfl, by decide +kernel, by decide +kernel⟩, rfl, rfl, by decide, fun _ _ _ _ _ _ us hl => match us, hl with | [_, _], _ => rfl, hm, fun _ _ _ _ _ _ _ _ _ ml o => d__law_ratio ml o⟩
theorem i__law_sum (F : FunD K "_law_sum" "_law_sum" (defArgs st__law_sum) (defBody st__law_sum) (defScope st__law_sum) [] [] f fd) (hm : mg "_law_sum" = some (.ref f)) : DefIn Pr w K mg PP "_law_sum" df__law_sum :=
  ⟨_, _, _, _, f, fd, N__law_sum, ["items"], F, ⟨rfl, rfl, rfl, by decide +kernel, rfl, by decide +kernel, by decide +kernel⟩, rfl, rfl, by decide, fun _ _ _ _ _ _ us hl => match us, hl with | [_], _ => rfl, hm, fun _ _ _ _ _ _ _ _ _ ml o => d__law_sum ml o⟩
theorem i__law_zeros (F : FunD K "_law_zeros" "_law_zeros" (defArgs st__law_zeros) (defBody st__law_zeros) (defScope st__law_zeros) [] [] f fd) (hm : mg "_law_zeros" = some (.ref f)) : DefIn Pr w K mg PP "_law_zeros" df__law_zeros :=
  ⟨_, _, _, _, f, fd, N__law_zeros, ["many"], F, ⟨rfl, rfl, rfl, by decide +kernel, rfl, by decide +kernel, by decide +kernel⟩, rfl, rfl, by decide, fun _ _ _ _ _ _ us hl => match us, hl with | [_], _ => rfl, hm, fun _ _ _ _ _ _ _ _ _ ml o => d__law_zeros ml o⟩
theorem i__law_row_table (F : FunD K "_law_row_table" "_law_row_table" (defArgs st__law_row_table) (defBody st__law_row_table) (defScope st__law_row_table) [] [] f fd) (hm : mg "_law_row_table" = some (.ref f)) : DefIn Pr w K mg PP "_law_row_table" df__law_row_table :=
  ⟨_, _, _, _, f, fd, N__law_row_table, ["row", "table", "wide"], F, ⟨rfl, rfl, rfl, by decide +kernel, rfl, by decide +kernel, by decide +kernel⟩, rfl, rfl, by decide, fun _ _ _ _ _ _ us hl => match us, hl with | [_, _, _], _ => rfl, hm, fun _ _ _ _ _ _ _ _ _ ml o => d__law_row_table ml o⟩
theorem i__law_add (F : FunD K "_law_add" "_law_add" (defArgs st__law_add) (defBody st__law_add) (defScope st__law_add) [] [] f fd) (hm : mg "_law_add" = some (.ref f)) : DefIn Pr w K mg PP "_law_add" df__law_add :=
  ⟨_, _, _, _, f, fd, N__law_add, ["one", "other"], F, ⟨rfl, rfl, rfl, by decide +kernel, rfl, by decide +kernel, by decide +kernel⟩, rfl, rfl, by decide, fun _ _ _ _ _ _ us hl => match us, hl with | [_, _], _ => rfl, hm, fun _ _ _ _ _ _ _ _ _ ml o => d__law_add ml o⟩
theorem i__law_scaled (F : FunD K "_law_scaled" "_law_scaled" (defArgs st__law_scaled) (defBody st__law_scaled) (defScope st__law_scaled) [] [] f fd) (hm : mg "_law_scaled" = some (.ref f)) : DefIn Pr w K mg PP "_law_scaled" df__law_scaled :=
  ⟨_, _, _, _, f, fd, N__law_scaled, ["row", "by"], F, ⟨rfl, rfl, rfl, by decide +kernel, rfl, by decide +kernel, by decide +kernel⟩, rfl, rfl, by decide, fun _ _ _ _ _ _ us hl => match us, hl with | [_, _], _ => rfl, hm, fun _ _ _ _ _ _ _ _ _ ml o => d__law_scaled ml o⟩
theorem i__law_product (F : FunD K "_law_product" "_law_product" (defArgs st__law_product) (defBody st__law_product) (defScope st__law_product) [] [] f fd) (hm : mg "_law_product" = some (.ref f)) : DefIn Pr w K mg PP "_law_product" df__law_product :=
  ⟨_, _, _, _, f, fd, N__law_product, ["one", "other", "wide"], F, ⟨rfl, rfl, rfl, by decide +kernel, rfl, by decide +kernel, by decide +kernel⟩, rfl, rfl, by decide, fun _ _ _ _ _ _ us hl => match us, hl with | [_, _, _], _ => rfl, hm, fun _ _ _ _ _ _ _ _ _ ml o => d__law_product ml o⟩
theorem i__law_table_sum (F : FunD K "_law_table_sum" "_law_table_sum" (defArgs st__law_table_sum) (defBody st__law_table_sum) (defScope st__law_table_sum) [] [] f fd) (hm : mg "_law_table_sum" = some (.ref f)) : DefIn Pr w K mg PP "_law_table_sum" df__law_table_sum :=
  ⟨_, _, _, _, f, fd, N__law_table_sum, ["one", "other"], F, ⟨rfl, rfl, rfl, by decide +kernel, rfl, by decide +kernel, by decide +kernel⟩, rfl, rfl, by decide, fun _ _ _ _ _ _ us hl => match us, hl with | [_, _], _ => rfl, hm, fun _ _ _ _ _ _ _ _ _ ml o => d__law_table_sum ml o⟩
theorem i__law_turned (F : FunD K "_law_turned" "_law_turned" (defArgs st__law_turned) (defBody st__law_turned) (defScope st__law_turned) [] [] f fd) (hm : mg "_law_turned" = some (.ref f)) : DefIn Pr w K mg PP "_law_turned" df__law_turned :=
  ⟨_, _, _, _, f, fd, N__law_turned, ["table", "wide"], F, ⟨rfl, rfl, rfl, by decide +kernel, rfl, by decide +kernel, by decide +kernel⟩, rfl, rfl, by decide, fun _ _ _ _ _ _ us hl => match us, hl with | [_, _], _ => rfl, hm, fun _ _ _ _ _ _ _ _ _ ml o => d__law_turned ml o⟩
theorem i__law_unit (F : FunD K "_law_unit" "_law_unit" (defArgs st__law_unit) (defBody st__law_unit) (defScope st__law_unit) [] [] f fd) (hm : mg "_law_unit" = some (.ref f)) : DefIn Pr w K mg PP "_law_unit" df__law_unit :=
  ⟨_, _, _, _, f, fd, N__law_unit, ["size"], F, ⟨rfl, rfl, rfl, by decide +kernel, rfl, by decide +kernel, by decide +kernel⟩, rfl, rfl, by decide, fun _ _ _ _ _ _ us hl => match us, hl with | [_], _ => rfl, hm, fun _ _ _ _ _ _ _ _ _ ml o => d__law_unit ml o⟩
theorem i__law_table_fault (F : FunD K "_law_table_fault" "_law_table_fault" (defArgs st__law_table_fault) (defBody st__law_table_fault) (defScope st__law_table_fault) [] [] f fd) (hm : mg "_law_table_fault" = some (.ref f)) : DefIn Pr w K mg PP "_law_table_fault" df__law_table_fault :=
  ⟨_, _, _, _, f, fd, N__law_table_fault, ["action"], F, ⟨rfl, rfl, rfl, by decide +kernel, rfl, by decide +kernel, by decide +kernel⟩, rfl, rfl, by decide, fun _ _ _ _ _ _ us hl => match us, hl with | [_], _ => rfl, hm, fun _ _ _ _ _ _ _ _ _ ml o => d__law_table_fault ml o⟩
theorem i__law_tables_due (F : FunD K "_law_tables_due" "_law_tables_due" (defArgs st__law_tables_due) (defBody st__law_tables_due) (defScope st__law_tables_due) [] [] f fd) (hm : mg "_law_tables_due" = some (.ref f)) : DefIn Pr w K mg PP "_law_tables_due" df__law_tables_due :=
  ⟨_, _, _, _, f, fd, N__law_tables_due, ["tries"], F, ⟨rfl, rfl, rfl, by decide +kernel, rfl, by decide +kernel, by decide +kernel⟩, rfl, rfl, by decide, fun _ _ _ _ _ _ us hl => match us, hl with | [_], _ => rfl, hm, fun _ _ _ _ _ _ _ _ _ ml o => d__law_tables_due ml o⟩
theorem i__law_some_table (F : FunD K "_law_some_table" "_law_some_table" (defArgs st__law_some_table) (defBody st__law_some_table) (defScope st__law_some_table) [] [] f fd) (hm : mg "_law_some_table" = some (.ref f)) : DefIn Pr w K mg PP "_law_some_table" df__law_some_table :=
  ⟨_, _, _, _, f, fd, N__law_some_table, ["pen", "tall", "wide"], F, ⟨rfl, rfl, rfl, by decide +kernel, rfl, by decide +kernel, by decide +kernel⟩, rfl, rfl, by decide, fun _ _ _ _ _ _ us hl => match us, hl with | [_, _, _], _ => rfl, hm, fun _ _ _ _ _ _ _ _ _ ml o => d__law_some_table ml o⟩
theorem i__law_handed_table (F : FunD K "_law_handed_table" "_law_handed_table" (defArgs st__law_handed_table) (defBody st__law_handed_table) (defScope st__law_handed_table) [] [] f fd) (hm : mg "_law_handed_table" = some (.ref f)) : DefIn Pr w K mg PP "_law_handed_table" df__law_handed_table :=
  ⟨_, _, _, _, f, fd, N__law_handed_table, ["pen", "rows"], F, ⟨rfl, rfl, rfl, by decide +kernel, rfl, by decide +kernel, by decide +kernel⟩, rfl, rfl, by decide, fun _ _ _ _ _ _ us hl => match us, hl with | [_, _], _ => rfl, hm, fun _ _ _ _ _ _ _ _ _ ml o => d__law_handed_table ml o⟩
theorem i__law_bad_table (F : FunD K "_law_bad_table" "_law_bad_table" (defArgs st__law_bad_table) (defBody st__law_bad_table) (defScope st__law_bad_table) [] [] f fd) (hm : mg "_law_bad_table" = some (.ref f)) : DefIn Pr w K mg PP "_law_bad_table" df__law_bad_table :=
  ⟨_, _, _, _, f, fd, N__law_bad_table, ["pen"], F, ⟨rfl, rfl, rfl, by decide +kernel, rfl, by decide +kernel, by decide +kernel⟩, rfl, rfl, by decide, fun _ _ _ _ _ _ us hl => match us, hl with | [_], _ => rfl, hm, fun _ _ _ _ _ _ _ _ _ ml o => d__law_bad_table ml o⟩
theorem i__law_wide (F : FunD K "_law_wide" "_law_wide" (defArgs st__law_wide) (defBody st__law_wide) (defScope st__law_wide) [] [] f fd) (hm : mg "_law_wide" = some (.ref f)) : DefIn Pr w K mg PP "_law_wide" df__law_wide :=
  ⟨_, _, _, _, f, fd, N__law_wide, ["table"], F, ⟨rfl, rfl, rfl, by decide +kernel, rfl, by decide +kernel, by decide +kernel⟩, rfl, rfl, by decide, fun _ _ _ _ _ _ us hl => match us, hl with | [_], _ => rfl, hm, fun _ _ _ _ _ _ _ _ _ ml o => d__law_wide ml o⟩
theorem e_BadNumber (F : FunD K "__init__" "BadNumber.__init__" (defArgs in_BadNumber) (defBody in_BadNumber) (defScope in_BadNumber) [] [] (He.ma K (He.ga K "BadNumber") "__init__") fd) (hb : mg "SteerError" = some (.ref (He.ga K "SteerError"))) (h : excB K "BadNumber" "SteerError" ["what", "number"] = true) (hm : mg "BadNumber" = some (.ref (He.ga K "BadNumber"))) : XcK Pr w K mg base "BadNumber" ["what", "number"] :=
  xck_of (N := ["self", "what", "number"]) (ps := ["self", "what", "number"]) (z := "A number that is not allowed here.") hm h F ⟨rfl, rfl, rfl, by decide +kernel, rfl, by decide +kernel, by decide +kernel⟩ rfl (by decide +kernel) (by decide) (fun _ _ _ _ _ _ us hl => match us, hl with | [_, _, _], _ => rfl) fun cd A outer s H E hs => pss_cons (ps_expr (pe_sinit hb hs (pa_cons (pe_var (i := 0) rfl (Or.inl rfl)) (pa_cons pe_str pa_nil)))) (ini_cons 1 (ini_cons 2 ini_nil))
theorem e_BadRow (F : FunD K "__init__" "BadRow.__init__" (defArgs in_BadRow) (defBody in_BadRow) (defScope in_BadRow) [] [] (He.ma K (He.ga K "BadRow") "__init__") fd) (hb : mg "SteerError" = some (.ref (He.ga K "SteerError"))) (h : excB K "BadRow" "SteerError" ["row"] = true) (hm : mg "BadRow" = some (.ref (He.ga K "BadRow"))) : XcK Pr w K mg base "BadRow" ["row"] :=
  xck_of (N := ["self", "row"]) (ps := ["self", "row"]) (z := "A value that is no such row.") hm h F ⟨rfl, rfl, rfl, by decide +kernel, rfl, by decide +kernel, by decide +kernel⟩ rfl (by decide +kernel) (by decide) (fun _ _ _ _ _ _ us hl => match us, hl with | [_, _], _ => rfl) fun cd A outer s H E hs => pss_cons (ps_expr (pe_sinit hb hs (pa_cons (pe_var (i := 0) rfl (Or.inl rfl)) (pa_cons pe_str pa_nil)))) (ini_cons 1 ini_nil)
theorem e_BadTable (F : FunD K "__init__" "BadTable.__init__" (defArgs in_BadTable) (defBody in_BadTable) (defScope in_BadTable) [] [] (He.ma K (He.ga K "BadTable") "__init__") fd) (hb : mg "SteerError" = some (.ref (He.ga K "SteerError"))) (h : excB K "BadTable" "SteerError" ["table"] = true) (hm : mg "BadTable" = some (.ref (He.ga K "BadTable"))) : XcK Pr w K mg base "BadTable" ["table"] :=
  xck_of (N := ["self", "table"]) (ps := ["self", "table"]) (z := "A value that is no such table.") hm h F ⟨rfl, rfl, rfl, by decide +kernel, rfl, by decide +kernel, by decide +kernel⟩ rfl (by decide +kernel) (by decide) (fun _ _ _ _ _ _ us hl => match us, hl with | [_, _], _ => rfl) fun cd A outer s H E hs => pss_cons (ps_expr (pe_sinit hb hs (pa_cons (pe_var (i := 0) rfl (Or.inl rfl)) (pa_cons pe_str pa_nil)))) (ini_cons 1 ini_nil)
theorem e_Unlike (F : FunD K "__init__" "Unlike.__init__" (defArgs in_Unlike) (defBody in_Unlike) (defScope in_Unlike) [] [] (He.ma K (He.ga K "Unlike") "__init__") fd) (hb : mg "SteerError" = some (.ref (He.ga K "SteerError"))) (h : excB K "Unlike" "SteerError" ["what"] = true) (hm : mg "Unlike" = some (.ref (He.ga K "Unlike"))) : XcK Pr w K mg base "Unlike" ["what"] :=
  xck_of (N := ["self", "what"]) (ps := ["self", "what"]) (z := "Things that do not fit together.") hm h F ⟨rfl, rfl, rfl, by decide +kernel, rfl, by decide +kernel, by decide +kernel⟩ rfl (by decide +kernel) (by decide) (fun _ _ _ _ _ _ us hl => match us, hl with | [_, _], _ => rfl) fun cd A outer s H E hs => pss_cons (ps_expr (pe_sinit hb hs (pa_cons (pe_var (i := 0) rfl (Or.inl rfl)) (pa_cons pe_str pa_nil)))) (ini_cons 1 ini_nil)
end
theorem lawS : FnScope N_law ["script"] (defScope st_law) := ⟨rfl, rfl, rfl, by decide +kernel, rfl, by decide +kernel, by decide +kernel⟩
section
variable {Pr : Program} {w : World} {K : PySem.W.Frag} {mg : Str → Option Value}
theorem j_0 : LamSt Pr w K mg PP N_law (defScope st_law) "<lambda>0" la_0.1 la_0.2.1 la_0.2.2 :=
  ⟨lm_0, rfl, rfl, by kernel_rfl, lamFrB_ok (by kernel_rfl), fun _ _ _ _ _ => rfl, fun _ _ _ _ _ _ _ _ _ _ _ _ o => l_0 o⟩
theorem j_1 : LamSt Pr w K mg PP N_law (defScope st_law) "<lambda>1" la_1.1 la_1.2.1 la_1.2.2 :=
  ⟨lm_1, rfl, rfl, by kernel_rfl, lamFrB_ok (by kernel_rfl), fun _ _ _ _ _ => rfl, fun _ _ _ _ _ _ _ _ _ _ _ _ o => l_1 o⟩
theorem j_2 : LamSt Pr w K mg PP N_law (defScope st_law) "<lambda>2" la_2.1 la_2.2.1 la_2.2.2 :=
  ⟨lm_2, rfl, rfl, by kernel_rfl, lamFrB_ok (by kernel_rfl), fun _ _ _ _ _ => rfl, fun _ _ _ _ _ _ _ _ _ _ _ _ o => l_2 o⟩
theorem j_3 : LamSt Pr w K mg PP N_law (defScope st_law) "<lambda>3" la_3.1 la_3.2.1 la_3.2.2 :=
  ⟨lm_3, rfl, rfl, by kernel_rfl, lamFrB_ok (by kernel_rfl), fun _ _ _ _ _ => rfl, fun _ _ _ _ _ _ _ _ _ _ _ _ o => l_3 o⟩
theorem j_4 : LamSt Pr w K mg PP N_law (defScope st_law) "<lambda>4" la_4.1 la_4.2.1 la_4.2.2 :=
  ⟨lm_4, rfl, rfl, by kernel_rfl, lamFrB_ok (by kernel_rfl), fun _ _ _ _ _ => rfl, fun _ _ _ _ _ _ _ _ _ _ _ _ o => l_4 o⟩
theorem j_5 : LamSt Pr w K mg PP N_law (defScope st_law) "<lambda>5" la_5.1 la_5.2.1 la_5.2.2 :=
  ⟨lm_5, rfl, rfl, by kernel_rfl, lamFrB_ok (by kernel_rfl), fun _ _ _ _ _ => rfl, fun _ _ _ _ _ _ _ _ _ _ _ _ o => l_5 o⟩
theorem j_6 : LamSt Pr w K mg PP N_law (defScope st_law) "<lambda>6" la_6.1 la_6.2.1 la_6.2.2 :=
  ⟨lm_6, rfl, rfl, by kernel_rfl, lamFrB_ok (by kernel_rfl), fun _ _ _ _ _ => rfl, fun _ _ _ _ _ _ _ _ _ _ _ _ o => l_6 o⟩
theorem j_7 : LamSt Pr w K mg PP N_law (defScope st_law) "<lambda>7" la_7.1 la_7.2.1 la_7.2.2 :=
  ⟨lm_7, rfl, rfl, by kernel_rfl, lamFrB_ok (by kernel_rfl), fun _ _ _ _ _ => rfl, fun _ _ _ _ _ _ _ _ _ _ _ _ o => l_7 o⟩
theorem j_8 : LamSt Pr w K mg PP N_law (defScope st_law) "<lambda>8" la_8.1 la_8.2.1 la_8.2.2 :=
  ⟨lm_8, rfl, rfl, by kernel_rfl, lamFrB_ok (by kernel_rfl), fun _ _ _ _ _ => rfl, fun _ _ _ _ _ _ _ _ _ _ _ _ o => l_8 o⟩
theorem j_9 : LamSt Pr w K mg PP N_law (defScope st_law) "<lambda>9" la_9.1 la_9.2.1 la_9.2.2 :=
  ⟨lm_9, rfl, rfl, by kernel_rfl, lamFrB_ok (by kernel_rfl), fun _ _ _ _ _ => rfl, fun _ _ _ _ _ _ _ _ _ _ _ _ o => l_9 o⟩
theorem j_10 : LamSt Pr w K mg PP N_law (defScope st_law) "<lambda>10" la_10.1 la_10.2.1 la_10.2.2 :=
  ⟨lm_10, rfl, rfl, by kernel_rfl, lamFrB_ok (by kernel_rfl), fun _ _ _ _ _ => rfl, fun _ _ _ _ _ _ _ _ _ _ _ _ o => l_10 o⟩
theorem j_11 : LamSt Pr w K mg PP N_law (defScope st_law) "<lambda>11" la_11.1 la_11.2.1 la_11.2.2 :=
  ⟨lm_11, rfl, rfl, by kernel_rfl, lamFrB_ok (by kernel_rfl), fun _ _ _ _ _ => rfl, fun _ _ _ _ _ _ _ _ _ _ _ _ o => l_11 o⟩
theorem j_12 : LamSt Pr w K mg PP N_law (defScope st_law) "<lambda>12" la_12.1 la_12.2.1 la_12.2.2 :=
  ⟨lm_12, rfl, rfl, by kernel_rfl, lamFrB_ok (by kernel_rfl), fun _ _ _ _ _ => rfl, fun _ _ _ _ _ _ _ _ _ _ _ _ o => l_12 o⟩
end
theorem told_ {w : World} {K : PySem.W.Frag} {mg : Str → Option Value} {h : Heap} {f : Addr} (KX : K.In h) (G : h.Ns mainGlobals mg) (hl : mg "law" = some (.ref f)) (c : He.SaysX fa fn [] tf (exB PP bs) w h K) : HeadG PySem.Challenge.rw_steerpapers_k12_tables_added_and_multipl w mg h f PP "script" (defArgs st_law) (defBody st_law) (defScope st_law) N_law lms 12 caps js_law := by
  have e := hl.symm.trans (He.glo_ok KX G (c.t.d.fact 0 (f := .glo "law") rfl))
  cases e
  obtain ⟨fd, FL⟩ := c.t.d.def_ 61 (d := dd_law) rfl
  obtain ⟨fd0, F0⟩ := c.t.d.def_ 0 (d := dd_is_whole) rfl
  obtain ⟨fd1, F1⟩ := c.t.d.def_ 1 (d := dd_in_tuples) rfl
  obtain ⟨fd2, F2⟩ := c.t.d.def_ 2 (d := dd_need_between) rfl
  obtain ⟨fd3, F3⟩ := c.t.d.def_ 3 (d := dd_is_pair) rfl
  obtain ⟨fd4, F4⟩ := c.t.d.def_ 4 (d := dd_is_ratio) rfl
  obtain ⟨fd5, F5⟩ := c.t.d.def_ 5 (d := dd_lowest) rfl
  obtain ⟨fd6, F6⟩ := c.t.d.def_ 6 (d := dd_told) rfl
  obtain ⟨fd7, F7⟩ := c.t.d.def_ 7 (d := dd_summed) rfl
  obtain ⟨fd8, F8⟩ := c.t.d.def_ 8 (d := dd_scaled) rfl
  obtain ⟨fd9, F9⟩ := c.t.d.def_ 9 (d := dd_is_loose_row) rfl
  obtain ⟨fd10, F10⟩ := c.t.d.def_ 10 (d := dd_table_or_none) rfl
  obtain ⟨fd11, F11⟩ := c.t.d.def_ 11 (d := dd_table_from) rfl
  obtain ⟨fd12, F12⟩ := c.t.d.def_ 12 (d := dd_two_from) rfl
  obtain ⟨fd13, F13⟩ := c.t.d.def_ 13 (d := dd_width_of) rfl
  obtain ⟨fd14, F14⟩ := c.t.d.def_ 14 (d := dd_need_like) rfl
  obtain ⟨fd15, F15⟩ := c.t.d.def_ 15 (d := dd_is_square) rfl
  obtain ⟨fd16, F16⟩ := c.t.d.def_ 16 (d := dd_square_from) rfl
  obtain ⟨fd17, F17⟩ := c.t.d.def_ 17 (d := dd_ratio_from) rfl
  obtain ⟨fd18, F18⟩ := c.t.d.def_ 18 (d := dd_row_plus) rfl
  obtain ⟨fd19, F19⟩ := c.t.d.def_ 19 (d := dd_sum_by) rfl
  obtain ⟨fd20, F20⟩ := c.t.d.def_ 20 (d := dd_less_by) rfl
  obtain ⟨fd21, F21⟩ := c.t.d.def_ 21 (d := dd_table_sum) rfl
  obtain ⟨fd22, F22⟩ := c.t.d.def_ 22 (d := dd_table_less) rfl
  obtain ⟨fd23, F23⟩ := c.t.d.def_ 23 (d := dd_times_by) rfl
  obtain ⟨fd24, F24⟩ := c.t.d.def_ 24 (d := dd_table_times) rfl
  obtain ⟨fd25, F25⟩ := c.t.d.def_ 25 (d := dd_mixed_by) rfl
  obtain ⟨fd26, F26⟩ := c.t.d.def_ 26 (d := dd_product_by) rfl
  obtain ⟨fd27, F27⟩ := c.t.d.def_ 27 (d := dd_table_product) rfl
  obtain ⟨fd28, F28⟩ := c.t.d.def_ 28 (d := dd_turned_by) rfl
  obtain ⟨fd29, F29⟩ := c.t.d.def_ 29 (d := dd_turned_over) rfl
  obtain ⟨fd30, F30⟩ := c.t.d.def_ 30 (d := dd_unit_row) rfl
  obtain ⟨fd31, F31⟩ := c.t.d.def_ 31 (d := dd_unit_by) rfl
  obtain ⟨fd32, F32⟩ := c.t.d.def_ 32 (d := dd_unit_table) rfl
  obtain ⟨fd33, F33⟩ := c.t.d.def_ 33 (d := dd_power_by) rfl
  obtain ⟨fd34, F34⟩ := c.t.d.def_ 34 (d := dd_table_power) rfl
  obtain ⟨fd35, F35⟩ := c.t.d.def_ 35 (d := dd__law_pen) rfl
  obtain ⟨fd36, F36⟩ := c.t.d.def_ 36 (d := dd__law_draw) rfl
  obtain ⟨fd37, F37⟩ := c.t.d.def_ 37 (d := dd__law_pick) rfl
  obtain ⟨fd38, F38⟩ := c.t.d.def_ 38 (d := dd__law_gcd) rfl
  obtain ⟨fd39, F39⟩ := c.t.d.def_ 39 (d := dd__law_q) rfl
  obtain ⟨fd40, F40⟩ := c.t.d.def_ 40 (d := dd__law_plus) rfl
  obtain ⟨fd41, F41⟩ := c.t.d.def_ 41 (d := dd__law_times) rfl
  obtain ⟨fd42, F42⟩ := c.t.d.def_ 42 (d := dd__law_handed) rfl
  obtain ⟨fd43, F43⟩ := c.t.d.def_ 43 (d := dd__law_handed_row) rfl
  obtain ⟨fd44, F44⟩ := c.t.d.def_ 44 (d := dd__law_passed) rfl
  obtain ⟨fd45, F45⟩ := c.t.d.def_ 45 (d := dd__law_ratio) rfl
  obtain ⟨fd46, F46⟩ := c.t.d.def_ 46 (d := dd__law_sum) rfl
  obtain ⟨fd47, F47⟩ := c.t.d.def_ 47 (d := dd__law_zeros) rfl
  obtain ⟨fd48, F48⟩ := c.t.d.def_ 48 (d := dd__law_row_table) rfl
  obtain ⟨fd49, F49⟩ := c.t.d.def_ 49 (d := dd__law_add) rfl
  obtain ⟨fd50, F50⟩ := c.t.d.def_ 50 (d := dd__law_scaled) rfl
  obtain ⟨fd51, F51⟩ := c.t.d.def_ 51 (d := dd__law_product) rfl
  obtain ⟨fd52, F52⟩ := c.t.d.def_ 52 (d := dd__law_table_sum) rfl
  obtain ⟨fd53, F53⟩ := c.t.d.def_ 53 (d := dd__law_turned) rfl
  obtain ⟨fd54, F54⟩ := c.t.d.def_ 54 (d := dd__law_unit) rfl
  obtain ⟨fd55, F55⟩ := c.t.d.def_ 55 (d := dd__law_table_fault) rfl
  obtain ⟨fd56, F56⟩ := c.t.d.def_ 56 (d := dd__law_tables_due) rfl
  obtain ⟨fd57, F57⟩ := c.t.d.def_ 57 (d := dd__law_some_table) rfl
  obtain ⟨fd58, F58⟩ := c.t.d.def_ 58 (d := dd__law_handed_table) rfl
  obtain ⟨fd59, F59⟩ := c.t.d.def_ 59 (d := dd__law_bad_table) rfl
  obtain ⟨fd60, F60⟩ := c.t.d.def_ 60 (d := dd__law_wide) rfl
  obtain ⟨fx0, FX0⟩ := c.t.d.def_ 62 (d := di_BadNumber) rfl
  obtain ⟨fx1, FX1⟩ := c.t.d.def_ 63 (d := di_BadRow) rfl
  obtain ⟨fx2, FX2⟩ := c.t.d.def_ 64 (d := di_BadTable) rfl
  obtain ⟨fx3, FX3⟩ := c.t.d.def_ 65 (d := di_Unlike) rfl
  have fac : ∀ f ∈ fasOf PP "law", f.ok K = true := fun f hf => c.t.d.facts (List.mem_append_left _ hf)
  have t1 := c.empty _ List.mem_cons_self
  have t2 := c.out _ List.mem_cons_self
  have t3 := PySem.W.codeHd_of_K KX (c.hd _ List.mem_cons_self)
  refine ⟨K, [⟨(He.cT K ("law", none)).1, (He.cT K ("law", none)).2, "law.<locals>." ++ "<lambda>"⟩], fd, KX, all_mem t1 all_nil, all_mem t2 all_nil, all_mem t3 all_nil, FL, all_mem rfl all_nil, .inr ⟨_, List.mem_cons_self, code_law FL⟩, ?_, ?_, fun _ _ _ _ _ _ _ _ o LF CF ml => d_law o LF CF ml⟩
  · exact lams_all (all_mem (j_0) (all_mem (j_1) (all_mem (j_2) (all_mem (j_3) (all_mem (j_4) (all_mem (j_5) (all_mem (j_6) (all_mem (j_7) (all_mem (j_8) (all_mem (j_9) (all_mem (j_10) (all_mem (j_11) (all_mem (j_12) (all_nil))))))))))))))
  intro base KX2 G2
  refine ⟨modOk_of KX2 G2 fac c.more ?_, fun T ml j y d hy B hB => all_defs (defs_all (P := PP) ?_) (fun B2 h2 => modOk_of (in_big KX2 h2) (ns_big G2 h2) fac c.more ?_) ml j j (Nat.le_refl j) y d hy B hB⟩
  · exact all_mem (e_BadNumber FX0 (He.glo_ok KX2 G2 (c.t.d.fact 90 (f := .glo "SteerError") rfl))) (all_mem (e_BadRow FX1 (He.glo_ok KX2 G2 (c.t.d.fact 90 (f := .glo "SteerError") rfl))) (all_mem (e_BadTable FX2 (He.glo_ok KX2 G2 (c.t.d.fact 90 (f := .glo "SteerError") rfl))) (all_mem (e_Unlike FX3 (He.glo_ok KX2 G2 (c.t.d.fact 90 (f := .glo "SteerError") rfl))) (all_nil))))
  · exact all_mem (i_is_whole F0 (He.glo_ok KX2 G2 (c.t.d.fact 25 (f := .glo "is_whole") rfl))) (all_mem (i_in_tuples F1 (He.glo_ok KX2 G2 (c.t.d.fact 26 (f := .glo "in_tuples") rfl))) (all_mem (i_need_between F2 (He.glo_ok KX2 G2 (c.t.d.fact 27 (f := .glo "need_between") rfl))) (all_mem (i_is_pair F3 (He.glo_ok KX2 G2 (c.t.d.fact 28 (f := .glo "is_pair") rfl))) (all_mem (i_is_ratio F4 (He.glo_ok KX2 G2 (c.t.d.fact 29 (f := .glo "is_ratio") rfl))) (all_mem (i_lowest F5 (He.glo_ok KX2 G2 (c.t.d.fact 30 (f := .glo "lowest") rfl))) (all_mem (i_told F6 (He.glo_ok KX2 G2 (c.t.d.fact 31 (f := .glo "told") rfl))) (all_mem (i_summed F7 (He.glo_ok KX2 G2 (c.t.d.fact 32 (f := .glo "summed") rfl))) (all_mem (i_scaled F8 (He.glo_ok KX2 G2 (c.t.d.fact 33 (f := .glo "scaled") rfl))) (all_mem (i_is_loose_row F9 (He.glo_ok KX2 G2 (c.t.d.fact 34 (f := .glo "is_loose_row") rfl))) (all_mem (i_table_or_none F10 (He.glo_ok KX2 G2 (c.t.d.fact 35 (f := .glo "table_or_none") rfl))) (all_mem (i_table_from F11 (He.glo_ok KX2 G2 (c.t.d.fact 36 (f := .glo "table_from") rfl))) (all_mem (i_two_from F12 (He.glo_ok KX2 G2 (c.t.d.fact 37 (f := .glo "two_from") rfl))) (all_mem (i_width_of F13 (He.glo_ok KX2 G2 (c.t.d.fact 38 (f := .glo "width_of") rfl))) (all_mem (i_need_like F14 (He.glo_ok KX2 G2 (c.t.d.fact 39 (f := .glo "need_like") rfl))) (all_mem (i_is_square F15 (He.glo_ok KX2 G2 (c.t.d.fact 40 (f := .glo "is_square") rfl))) (all_mem (i_square_from F16 (He.glo_ok KX2 G2 (c.t.d.fact 41 (f := .glo "square_from") rfl))) (all_mem (i_ratio_from F17 (He.glo_ok KX2 G2 (c.t.d.fact 42 (f := .glo "ratio_from") rfl))) (all_mem (i_row_plus F18 (He.glo_ok KX2 G2 (c.t.d.fact 43 (f := .glo "row_plus") rfl))) (all_mem (i_sum_by F19 (He.glo_ok KX2 G2 (c.t.d.fact 44 (f := .glo "sum_by") rfl))) (all_mem (i_less_by F20 (He.glo_ok KX2 G2 (c.t.d.fact 45 (f := .glo "less_by") rfl))) (all_mem (i_table_sum F21 (He.glo_ok KX2 G2 (c.t.d.fact 46 (f := .glo "table_sum") rfl))) (all_mem (i_table_less F22 (He.glo_ok KX2 G2 (c.t.d.fact 47 (f := .glo "table_less") rfl))) (all_mem (i_times_by F23 (He.glo_ok KX2 G2 (c.t.d.fact 48 (f := .glo "times_by") rfl))) (all_mem (i_table_times F24 (He.glo_ok KX2 G2 (c.t.d.fact 49 (f := .glo "table_times") rfl))) (all_mem (i_mixed_by F25 (He.glo_ok KX2 G2 (c.t.d.fact 50 (f := .glo "mixed_by") rfl))) (all_mem (i_product_by F26 (He.glo_ok KX2 G2 (c.t.d.fact 51 (f := .glo "product_by") rfl))) (all_mem (i_table_product F27 (He.glo_ok KX2 G2 (c.t.d.fact 52 (f := .glo "table_product") rfl))) (all_mem (i_turned_by F28 (He.glo_ok KX2 G2 (c.t.d.fact 53 (f := .glo "turned_by") rfl))) (all_mem (i_turned_over F29 (He.glo_ok KX2 G2 (c.t.d.fact 54 (f := .glo "turned_over") rfl))) (all_mem (i_unit_row F30 (He.glo_ok KX2 G2 (c.t.d.fact 55 (f := .glo "unit_row") rfl))) (all_mem (i_unit_by F31 (He.glo_ok KX2 G2 (c.t.d.fact 56 (f := .glo "unit_by") rfl))) (all_mem (i_unit_table F32 (He.glo_ok KX2 G2 (c.t.d.fact 57 (f := .glo "unit_table") rfl))) (all_mem (i_power_by F33 (He.glo_ok KX2 G2 (c.t.d.fact 58 (f := .glo "power_by") rfl))) (all_mem (i_table_power F34 (He.glo_ok KX2 G2 (c.t.d.fact 59 (f := .glo "table_power") rfl))) (all_mem (i__law_pen F35 (He.glo_ok KX2 G2 (c.t.d.fact 60 (f := .glo "_law_pen") rfl))) (all_mem (i__law_draw F36 (He.glo_ok KX2 G2 (c.t.d.fact 61 (f := .glo "_law_draw") rfl))) (all_mem (i__law_pick F37 (He.glo_ok KX2 G2 (c.t.d.fact 62 (f := .glo "_law_pick") rfl))) (all_mem (i__law_gcd F38 (He.glo_ok KX2 G2 (c.t.d.fact 63 (f := .glo "_law_gcd") rfl))) (all_mem (i__law_q F39 (He.glo_ok KX2 G2 (c.t.d.fact 64 (f := .glo "_law_q") rfl))) (all_mem (i__law_plus F40 (He.glo_ok KX2 G2 (c.t.d.fact 65 (f := .glo "_law_plus") rfl))) (all_mem (i__law_times F41 (He.glo_ok KX2 G2 (c.t.d.fact 66 (f := .glo "_law_times") rfl))) (all_mem (i__law_handed F42 (He.glo_ok KX2 G2 (c.t.d.fact 67 (f := .glo "_law_handed") rfl))) (all_mem (i__law_handed_row F43 (He.glo_ok KX2 G2 (c.t.d.fact 68 (f := .glo "_law_handed_row") rfl))) (all_mem (i__law_passed F44 (He.glo_ok KX2 G2 (c.t.d.fact 69 (f := .glo "_law_passed") rfl))) (all_mem (i__law_ratio F45 (He.glo_ok KX2 G2 (c.t.d.fact 70 (f := .glo "_law_ratio") rfl))) (all_mem (i__law_sum F46 (He.glo_ok KX2 G2 (c.t.d.fact 71 (f := .glo "_law_sum") rfl))) (all_mem (i__law_zeros F47 (He.glo_ok KX2 G2 (c.t.d.fact 72 (f := .glo "_law_zeros") rfl))) (all_mem (i__law_row_table F48 (He.glo_ok KX2 G2 (c.t.d.fact 73 (f := .glo "_law_row_table") rfl))) (all_mem (i__law_add F49 (He.glo_ok KX2 G2 (c.t.d.fact 74 (f := .glo "_law_add") rfl))) (all_mem (i__law_scaled F50 (He.glo_ok KX2 G2 (c.t.d.fact 75 (f := .glo "_law_scaled") rfl))) (all_mem (i__law_product F51 (He.glo_ok KX2 G2 (c.t.d.fact 76 (f := .glo "_law_product") rfl))) (all_mem (i__law_table_sum F52 (He.glo_ok KX2 G2 (c.t.d.fact 77 (f := .glo "_law_table_sum") rfl))) (all_mem (i__law_turned F53 (He.glo_ok KX2 G2 (c.t.d.fact 78 (f := .glo "_law_turned") rfl))) (all_mem (i__law_unit F54 (He.glo_ok KX2 G2 (c.t.d.fact 79 (f := .glo "_law_unit") rfl))) (all_mem (i__law_table_fault F55 (He.glo_ok KX2 G2 (c.t.d.fact 80 (f := .glo "_law_table_fault") rfl))) (all_mem (i__law_tables_due F56 (He.glo_ok KX2 G2 (c.t.d.fact 81 (f := .glo "_law_tables_due") rfl))) (all_mem (i__law_some_table F57 (He.glo_ok KX2 G2 (c.t.d.fact 82 (f := .glo "_law_some_table") rfl))) (all_mem (i__law_handed_table F58 (He.glo_ok KX2 G2 (c.t.d.fact 83 (f := .glo "_law_handed_table") rfl))) (all_mem (i__law_bad_table F59 (He.glo_ok KX2 G2 (c.t.d.fact 84 (f := .glo "_law_bad_table") rfl))) (all_mem (i__law_wide F60 (He.glo_ok KX2 G2 (c.t.d.fact 85 (f := .glo "_law_wide") rfl))) (all_nil)))))))))))))))))))))))))))))))))))))))))))))))))))))))))))))
  · exact all_mem (e_BadNumber FX0 (He.glo_ok KX2 G2 (c.t.d.fact 90 (f := .glo "SteerError") rfl))) (all_mem (e_BadRow FX1 (He.glo_ok KX2 G2 (c.t.d.fact 90 (f := .glo "SteerError") rfl))) (all_mem (e_BadTable FX2 (He.glo_ok KX2 G2 (c.t.d.fact 90 (f := .glo "SteerError") rfl))) (all_mem (e_Unlike FX3 (He.glo_ok KX2 G2 (c.t.d.fact 90 (f := .glo "SteerError") rfl))) (all_nil))))
end K12
namespace K12
open PySem PySem.Spec L2 Rf
theorem hp : HasPen PP := ⟨rfl, rfl, rfl⟩
theorem hq : HasQ PP := ⟨rfl, rfl, rfl⟩
theorem hr : HasR PP := ⟨rfl, rfl, rfl, rfl⟩
theorem ha : HasA PP := ⟨hq, rfl, rfl⟩
theorem hs : HasS PP := ⟨hr, rfl, rfl⟩
theorem hf : HasF PP := ⟨hr, rfl, rfl, rfl⟩
theorem ht : HasT PP := ⟨hf, rfl, rfl, rfl⟩
theorem hpp : HasP PP := ⟨ht, hs, rfl, rfl, rfl, rfl, rfl⟩
abbrev lapB : List J := [(.setT [(.nm 3), (.nm 4), (.nm 5)] (.lc (.call "_law_draw" [(.var 1), (.cst (.int 4))]) [15] true (.rng (.cst (.int 3))) [] [15])), (.par [6, 7, 8] [(.call "_law_some_table" [(.var 1), (.var 3), (.var 4)]), (.call "_law_some_table" [(.var 1), (.var 3), (.var 4)]), (.call "_law_some_table" [(.var 1), (.var 4), (.var 5)])]), (.set (.nm 9) (.call "_law_ratio" [(.var 1), (.cst (.int 3))])), (.iff (.cmp .NotEq (.bi .repr [(.call "table_sum" [(.call "_law_handed_table" [(.var 1), (.var 6)]), (.call "_law_handed_table" [(.var 1), (.var 7)])])]) (.bi .repr [(.call "_law_table_sum" [(.var 6), (.var 7)])])) [(.ret (.cst (.bl false)))] []), (.iff (.cmp .NotEq (.bi .repr [(.call "table_less" [(.call "_law_handed_table" [(.var 1), (.var 6)]), (.call "_law_handed_table" [(.var 1), (.var 7)])])]) (.bi .repr [(.bi .tuple [(.lc (.call "_law_add" [(.var 24), (.call "_law_scaled" [(.var 25), (.tup [(.neg (.cst (.int 1))), (.cst (.int 1))])])]) [24, 25] false (.zip (.var 6) (.var 7)) [] [24, 25])])])) [(.ret (.cst (.bl false)))] []), (.iff (.cmp .NotEq (.bi .repr [(.call "table_times" [(.call "_law_handed_table" [(.var 1), (.var 6)]), (.call "_law_handed" [(.var 1), (.var 9)])])]) (.bi .repr [(.bi .tuple [(.lc (.call "_law_scaled" [(.var 26), (.var 9)]) [26] true (.var 6) [] [26])])])) [(.ret (.cst (.bl false)))] []), (.set (.nm 10) (.call "table_product" [(.call "_law_handed_table" [(.var 1), (.var 6)]), (.call "_law_handed_table" [(.var 1), (.var 8)])])), (.iff (.cmp .NotEq (.bi .repr [(.var 10)]) (.bi .repr [(.call "_law_product" [(.var 6), (.var 8), (.call "_law_wide" [(.var 8)])])])) [(.ret (.cst (.bl false)))] []), (.iff (.cmp .NotEq (.bi .repr [(.call "turned_over" [(.call "_law_handed_table" [(.var 1), (.var 6)])])]) (.bi .repr [(.call "_law_turned" [(.var 6), (.call "_law_wide" [(.var 6)])])])) [(.ret (.cst (.bl false)))] []), (.iff (.and (.cmp .Gt (.var 3) (.cst (.int 0))) (.and (.cmp .Gt (.var 4) (.cst (.int 0))) (.and (.cmp .Gt (.var 5) (.cst (.int 0))) (.cmp .NotEq (.call "turned_over" [(.var 10)]) (.call "table_product" [(.call "turned_over" [(.var 8)]), (.call "turned_over" [(.var 6)])]))))) [(.ret (.cst (.bl false)))] []), (.par [11, 12] [(.call "_law_some_table" [(.var 1), (.var 3), (.var 3)]), (.var 3)]), (.iff (.or (.cmp .NotEq (.bi .repr [(.call "unit_table" [(.var 12)])]) (.bi .repr [(.call "_law_unit" [(.var 12)])])) (.cmp .NotEq (.call "table_product" [(.call "unit_table" [(.var 12)]), (.var 11)]) (.var 11))) [(.ret (.cst (.bl false)))] []), (.par [13, 14] [(.call "_law_draw" [(.var 1), (.cst (.int 5))]), (.call "_law_unit" [(.var 12)])]), (.for_ [15] true (.rng (.var 13)) [(.set (.nm 14) (.call "_law_product" [(.var 14), (.var 11), (.var 12)]))]), (.iff (.or (.cmp .NotEq (.bi .repr [(.call "table_power" [(.call "_law_handed_table" [(.var 1), (.var 11)]), (.var 13)])]) (.bi .repr [(.var 14)])) (.cmp .NotEq (.call "table_product" [(.call "table_power" [(.var 11), (.var 13)]), (.var 11)]) (.call "table_power" [(.var 11), (.bin .Add (.var 13) (.cst (.int 1)))]))) [(.ret (.cst (.bl false)))] []), (.iff (.cmp .NotEq (.call "table_sum" [(.call "table_product" [(.var 11), (.var 6)]), (.call "table_product" [(.var 11), (.var 7)])]) (.call "table_product" [(.var 11), (.call "table_sum" [(.var 6), (.var 7)])])) [(.ret (.cst (.bl false)))] [])]
theorem tD_congr {m n : Nat} {f g : Nat → Nat → Rat} (h : ∀ i < m, ∀ j < n, f i j = g i j) : tD m n f = tD m n g := by
  unfold tD rD
  exact congrArg D.tup (List.map_congr_left fun i hi => congrArg D.tup (List.map_congr_left fun j hj => by rw [h i (List.mem_range.mp hi) j (List.mem_range.mp hj)]))
theorem sum_congr : ∀ {n : Nat} {f g : Nat → Rat}, (∀ t < n, f t = g t) → sumN n f = sumN n g
  | 0, _, _, _ => rfl
  | n + 1, f, g, h => by
    unfold sumN
    rw [sum_congr fun t ht => h t (Nat.lt_succ_of_lt ht), h n (Nat.lt_succ_self n)]
theorem sum_add : ∀ {n : Nat} {f g : Nat → Rat}, sumN n f + 1 * sumN n g = sumN n fun t => f t + 1 * g t
  | 0, _, _ => by
    unfold sumN
    rw [Rat.one_mul, Rat.add_zero]
  | n + 1, f, g => by
    unfold sumN
    rw [← sum_add]
    simp only [Rat.one_mul]
    grind
theorem sum_delta : ∀ {n i : Nat} {f : Nat → Rat}, sumN n (fun t => (if t = i then 1 else 0) * f t) = if i < n then f i else 0
  | 0, i, f => by
    unfold sumN
    rw [if_neg (by omega)]
  | n + 1, i, f => by
    show sumN n (fun t => (if t = i then 1 else 0) * f t) + (if n = i then 1 else 0) * f n = _
    rw [sum_delta]
    by_cases h : n = i
    · subst h
      rw [if_neg (by omega), if_pos rfl, if_pos (by omega), Rat.one_mul, Rat.zero_add]
    · rw [if_neg h, Rat.zero_mul, Rat.add_zero]
      by_cases h2 : i < n
      · rw [if_pos h2, if_pos (by omega)]
      · rw [if_neg h2, if_neg (by omega)]
/-- three numbers drawn -/
theorem draws3 {m : Nat} {p : Pen} {sc e2 e3 e4 e5 e6 e7 e8 e9 e10 e11 e12 e13 e14 e15 : Bd} (h : p.Ok) (hc : p.ct < 2 ^ 38) (h15 : Nl e15) :
    ∃ (a b d : Nat) (q : Pen), lcB (ev PP (callN PP 12) (m + 8)) (.call "_law_draw" [(.var 1), (.cst (.int 4))]) [15] true [] [15] ((List.range 3).map fun j => .int (j : Nat), []) ⟨[sc, .val (.cel 0), e2, e3, e4, e5, e6, e7, e8, e9, e10, e11, e12, e13, e14, e15, .un, .un, .un, .un, .un, .un, .un, .un, .un, .un, .un], [p.c], []⟩ = some (.ok (.fresh [.int a, .int b, .int d]), ⟨[sc, .val (.cel 0), e2, e3, e4, e5, e6, e7, e8, e9, e10, e11, e12, e13, e14, e15, .un, .un, .un, .un, .un, .un, .un, .un, .un, .un, .un], [q.c], []⟩) ∧ q.Ok ∧ q.ct ≤ p.ct + 3 ∧ a ≤ 3 ∧ b ≤ 3 ∧ d ≤ 3 := by
  have n15 : noLent [15] ([sc, .val (.cel 0), e2, e3, e4, e5, e6, e7, e8, e9, e10, e11, e12, e13, e14, e15, .un, .un, .un, .un, .un, .un, .un, .un, .un, .un, .un] : List Bd) = true := by rcases h15 with rfl | ⟨d, rfl⟩ <;> rfl
  obtain ⟨zs, S', r, ⟨q, g, rfl, q1, q2, rfl, q4⟩⟩ := lcB_ind (r := ev PP (callN PP 12) (m + 8)) (elt := .call "_law_draw" [(.var 1), (.cst (.int 4))]) (t := [15]) (one := true) (ifs := []) (own := [15]) (is := []) (ds := (List.range 3).map fun j => .int (j : Nat)) (env := [sc, .val (.cel 0), e2, e3, e4, e5, e6, e7, e8, e9, e10, e11, e12, e13, e14, e15, .un, .un, .un, .un, .un, .un, .un, .un, .un, .un, .un]) (S := [p.c]) (L := [])
    (fun dn xs S2 => ∃ (q : Pen) (g : Nat → Nat), S2 = [q.c] ∧ q.Ok ∧ q.ct ≤ p.ct + dn.length ∧ xs = (List.range dn.length).map (fun j => .int (g j : Nat)) ∧ ∀ j, g j ≤ 3)
    (by rw [len_r]; exact le_line (by decide)) n15 rfl rfl ⟨p, fun _ => 0, rfl, h, Nat.le_refl _, rfl, fun j => Nat.zero_le 3⟩ (fun pre d post xs S2 e ⟨q, g, e2, q1, q2, q3, q4⟩ => by
      subst e2
      subst q3
      have hp := pre_len len_r e
      obtain ⟨t, q5, c5, o5, n5, t0, t4⟩ := draw_ok (P := PP) (k := 11) (p := q) (m := 4) [] [] K12.hp q1 (by omega) (by decide) (Sm.mono (j := 3) (by unfold Sm; decide) (by decide))
      obtain ⟨u, rfl⟩ := Int.eq_ofNat_of_zero_le t0
      simp only [Nat.reduceAdd] at c5
      refine ⟨[.int (u : Nat)], [q5.c], [sc, .val (.cel 0), e2, e3, e4, e5, e6, e7, e8, e9, e10, e11, e12, e13, e14, .val d, .un, .un, .un, .un, .un, .un, .un, .un, .un, .un, .un], ?_, rfl, q5, fun j => if j < pre.length then g j else u, rfl, o5, by rw [List.length_append, List.length_singleton]; omega, ?_, fun j => ?_⟩
      · simp only [↓Z, Vl, VC, ↓ZL, ↓ZC, ↓reduceIte, Nat.reduceAdd, Nat.reduceSub, q_i0, q_i1, zipR, z_kok, z_ret, eq_self, decide_true, decide_false, Bool.not_true, Bool.not_false, len_r, List.length_range, List.length_map, z_putnm, z_Ts_nil, z_Ts_cons, Int.toNat_natCast, range_map, ↓z_callSD c5]
      · rw [List.length_append, List.length_singleton, List.range_succ, List.map_append]
        congr 1
        · exact List.map_congr_left fun j hj => by
            show D.int ((g j : Nat) : Int) = D.int ((if j < pre.length then g j else u : Nat) : Int)
            rw [if_pos (List.mem_range.mp hj)]
        · simp
      · show (if j < pre.length then g j else u) ≤ 3
        split
        · exact q4 j
        · omega)
  rw [len_r] at q2 r
  exact ⟨g 0, g 1, g 2, q, r, q1, q2, q4 0, q4 1, q4 2⟩
theorem neg1 : Rb 1 (-1 : Rat) := ⟨by unfold Sm; decide, by unfold Sm; decide⟩
theorem sz {m n c : Nat} (hm : m ≤ 3) (hn : n ≤ 3) (h : c * 31 ≤ 16777216) : c * ((3 * n + 1) * m + 1) ≤ 16777216 := Nat.le_trans (Nat.mul_le_mul_left c (by have := Nat.mul_le_mul (show 3 * n + 1 ≤ 10 by omega) hm; omega)) h
set_option maxHeartbeats 8000000 in
theorem lap_ok {p : Pen} {sc e2 e3 e4 e5 e6 e7 e8 e9 e10 e11 e12 e13 e14 e15 : Bd} {dk : D} (h : p.Ok) (hc : p.ct < 2 ^ 30) (h2 : Nl e2) (h3 : Nl e3) (h4 : Nl e4) (h5 : Nl e5) (h6 : Nl e6) (h7 : Nl e7) (h8 : Nl e8) (h9 : Nl e9) (h10 : Nl e10) (h11 : Nl e11) (h12 : Nl e12) (h13 : Nl e13) (h14 : Nl e14) (h15 : Nl e15) :
    ∃ (q : Pen) (f3 f4 f5 f6 f7 f8 f9 f10 f11 f12 f13 f14 f15 : Bd), q.Ok ∧ q.ct ≤ p.ct + 10000 ∧ Nl f3 ∧ Nl f4 ∧ Nl f5 ∧ Nl f6 ∧ Nl f7 ∧ Nl f8 ∧ Nl f9 ∧ Nl f10 ∧ Nl f11 ∧ Nl f12 ∧ Nl f13 ∧ Nl f14 ∧ Nl f15 ∧
      lapE [2] true (sL (ev PP (callN PP 12) 59) lapB) dk ⟨[sc, .val (.cel 0), e2, e3, e4, e5, e6, e7, e8, e9, e10, e11, e12, e13, e14, e15, .un, .un, .un, .un, .un, .un, .un, .un, .un, .un, .un], [p.c], []⟩ = some (.ok .nx, ⟨[sc, .val (.cel 0), .val dk, f3, f4, f5, f6, f7, f8, f9, f10, f11, f12, f13, f14, f15, .un, .un, .un, .un, .un, .un, .un, .un, .un, .un, .un], [q.c], []⟩) := by
  obtain ⟨m, n, d, p1, c0, o1, n1, m3, n3, d3⟩ := draws3 (m := 49) (sc := sc) (e2 := .val dk) (e3 := e3) (e4 := e4) (e5 := e5) (e6 := e6) (e7 := e7) (e8 := e8) (e9 := e9) (e10 := e10) (e11 := e11) (e12 := e12) (e13 := e13) (e14 := e14) (e15 := e15) h (by omega) h15
  obtain ⟨F, p2, c1, o2, n2, bF⟩ := some_table_ok (P := PP) (k := 7) (m := m) (n := n) [] [] hp ha rfl rfl rfl rfl rfl m3 (by omega) o1 (by omega)
  obtain ⟨G, p3, c2, o3, n3', bG⟩ := some_table_ok (P := PP) (k := 7) (m := m) (n := n) [] [] hp ha rfl rfl rfl rfl rfl m3 (by omega) o2 (by omega)
  obtain ⟨K, p4, c3, o4, n4, bK⟩ := some_table_ok (P := PP) (k := 7) (m := n) (n := d) [] [] hp ha rfl rfl rfl rfl rfl n3 (by omega) o3 (by omega)
  obtain ⟨x, p5, c4, o5, n5, bx⟩ := lratio_ok (P := PP) (k := 9) (most := 3) (p := p4) [] [] hp hq rfl o4 (by omega) (by decide) (by decide)
  have bF2 : ∀ i < m, ∀ j < n, Rb 3900 (F i j) := fun i hi j hj => (bF i hi j hj).mono (by decide)
  have bG2 : ∀ i < m, ∀ j < n, Rb 3900 (G i j) := fun i hi j hj => (bG i hi j hj).mono (by decide)
  have bK2 : ∀ i < n, ∀ j < d, Rb 3900 (K i j) := fun i hi j hj => (bK i hi j hj).mono (by decide)
  obtain ⟨t5, p6, c5, o6, n6, it5⟩ := handed_table_ok (P := PP) (k := 7) (m := m) (n := n) (u := F) [] [] hp rfl rfl rfl rfl (by omega) (by omega) bF2 o5 (by omega)
  obtain ⟨t6, p7, c6, o7, n7, it6⟩ := handed_table_ok (P := PP) (k := 7) (m := m) (n := n) (u := G) [] [] hp rfl rfl rfl rfl (by omega) (by omega) bG2 o6 (by omega)
  obtain ⟨t7, p8, c7, o8, n8, it7⟩ := handed_table_ok (P := PP) (k := 7) (m := m) (n := n) (u := F) [] [] hp rfl rfl rfl rfl (by omega) (by omega) bF2 o7 (by omega)
  obtain ⟨t8, p9, c8, o9, n9, it8⟩ := handed_table_ok (P := PP) (k := 7) (m := m) (n := n) (u := G) [] [] hp rfl rfl rfl rfl (by omega) (by omega) bG2 o8 (by omega)
  obtain ⟨t9, p10, c9, o10, n10, it9⟩ := handed_table_ok (P := PP) (k := 7) (m := m) (n := n) (u := F) [] [] hp rfl rfl rfl rfl (by omega) (by omega) bF2 o9 (by omega)
  obtain ⟨a10, p11, c10, o11, n11, i10⟩ := handed_ok (P := PP) (k := 9) (p := p10) (x := x) [] [] hp rfl (bx.mono (by decide)) o10 (by omega)
  obtain ⟨t11, p12, c11, o12, n12, it11⟩ := handed_table_ok (P := PP) (k := 7) (m := m) (n := n) (u := F) [] [] hp rfl rfl rfl rfl (by omega) (by omega) bF2 o11 (by omega)
  obtain ⟨t12, p13, c12, o13, n13, it12⟩ := handed_table_ok (P := PP) (k := 7) (m := n) (n := d) (u := K) [] [] hp rfl rfl rfl rfl (by omega) (by omega) bK2 o12 (by omega)
  obtain ⟨t13, p14, c13, o14, n14, it13⟩ := handed_table_ok (P := PP) (k := 7) (m := m) (n := n) (u := F) [] [] hp rfl rfl rfl rfl (by omega) (by omega) bF2 o13 (by omega)
  obtain ⟨Q, p15, c14, o15, n15, bQ⟩ := some_table_ok (P := PP) (k := 7) (m := m) (n := m) [] [] hp ha rfl rfl rfl rfl rfl m3 (by omega) o14 (by omega)
  have bQ2 : ∀ i < m, ∀ j < m, Rb 3900 (Q i j) := fun i hi j hj => (bQ i hi j hj).mono (by decide)
  obtain ⟨many', p16, c15, o16, n16, y0, y5⟩ := draw_ok (P := PP) (k := 11) (p := p15) (m := 5) [] [] hp o15 (by omega) (by decide) (Sm.mono (j := 3) (by unfold Sm; decide) (by decide))
  obtain ⟨many, rfl⟩ := Int.eq_ofNat_of_zero_le y0
  have many4 : many ≤ 4 := by omega
  obtain ⟨t16, p17, c16, o17, n17, it16⟩ := handed_table_ok (P := PP) (k := 7) (m := m) (n := m) (u := Q) [] [] hp rfl rfl rfl rfl (by omega) (by omega) bQ2 o16 (by omega)
  -- what is reckoned
  have q1 : ∀ S, callN PP 12 "table_sum" [t5, t6] [] S = some (.ok (.val (tD m n fun i j => F i j + G i j)), S) := fun S => by
    have := table_sum_ok (P := PP) (k := 4) (L := []) (S := S) ht hs rfl rfl rfl rfl rfl rfl (by omega) (by omega) it5 it6 bF2 (fun i hi j hj => (bG i hi j hj).mono (by decide))
    simpa only [Rat.one_mul] using this
  have q1l : ∀ S, callN PP 12 "_law_table_sum" [tD m n F, tD m n G] [] S = some (.ok (.val (tD m n fun i j => F i j + G i j)), S) := fun S => ltable_sum_ok (P := PP) (k := 7) ha rfl rfl (by omega) (by omega) bF2 bG2
  have r1 : ∀ S, biD S .repr [tD m n fun i j => F i j + G i j] = some (.val (.str (rT (tD m n fun i j => F i j + G i j)))) := fun S => rep_tD (k := 40) (fun i hi j hj => ((bF i hi j hj).add (bG i hi j hj)).mono (by decide)) (by decide) (by decide) (by omega) (by omega) (sz (by omega) (by omega) (by decide))
  have q2 : ∀ S, callN PP 12 "table_less" [t7, t8] [] S = some (.ok (.val (tD m n fun i j => F i j + G i j * -1)), S) := fun S => by
    have := table_less_ok (P := PP) (k := 4) (L := []) (S := S) ht hs rfl rfl rfl rfl rfl rfl (by omega) (by omega) it7 it8 bF2 (fun i hi j hj => (bG i hi j hj).mono (by decide))
    simpa only [Rat.mul_comm (-1)] using this
  have r2 : ∀ S, biD S .repr [tD m n fun i j => F i j + G i j * -1] = some (.val (.str (rT (tD m n fun i j => F i j + G i j * -1)))) := fun S => rep_tD (k := 40) (fun i hi j hj => ((bF i hi j hj).add ((bG i hi j hj).mul neg1)).mono (by decide)) (by decide) (by decide) (by omega) (by omega) (sz (by omega) (by omega) (by decide))
  have q3 : ∀ S, callN PP 12 "table_times" [t9, a10] [] S = some (.ok (.val (tD m n fun i j => F i j * x)), S) := fun S => table_times_ok (P := PP) (k := 5) ht hs rfl rfl rfl (by omega) (by omega) it9 i10 bF2 (bx.mono (by decide))
  have r3 : ∀ S, biD S .repr [tD m n fun i j => F i j * x] = some (.val (.str (rT (tD m n fun i j => F i j * x)))) := fun S => rep_tD (k := 40) (fun i hi j hj => ((bF i hi j hj).mul bx).mono (by decide)) (by decide) (by decide) (by omega) (by omega) (sz (by omega) (by omega) (by decide))
  obtain ⟨w4, b4⟩ := pr_ok (m := m) (n := n) (p := d) (c := 100) bF bK n3 (by decide) (by decide)
  have q4 : ∀ S, callN PP 12 "table_product" [t11, t12] [] S = some (.ok (.val (tD m (wd n d) (mm n F K))), S) := fun S => table_product_ok (P := PP) (k := 4) hpp rfl (by omega) (by omega) (by omega) it11 it12 bK2 w4
  have qw8 : ∀ S, callN PP 12 "_law_wide" [tD n d K] [] S = some (.ok (.val (.int (wd n d))), S) := fun S => lwide_ok (P := PP) (k := 11) rfl rfl (fun S => tD_ne0)
  have qw6 : ∀ S, callN PP 12 "_law_wide" [tD m n F] [] S = some (.ok (.val (.int (wd m n))), S) := fun S => lwide_ok (P := PP) (k := 11) rfl rfl (fun S => tD_ne0)
  have q4l : ∀ S, callN PP 12 "_law_product" [tD m n F, tD n d K, .int (wd n d)] [] S = some (.ok (.val (tD m (wd n d) (mm n F K))), S) := fun S => lproduct_ok (P := PP) (k := 6) ha rfl rfl rfl wd_le (by omega) (by omega) (by omega) w4.1 w4.2
  have b4' : ∀ i < m, ∀ j < wd n d, Rb 100 (mm n F K i j) := fun i hi j hj => b4 i hi j (Nat.lt_of_lt_of_le hj wd_le)
  have r4 : ∀ S, biD S .repr [tD m (wd n d) (mm n F K)] = some (.val (.str (rT (tD m (wd n d) (mm n F K))))) := fun S => rep_tD (k := 100) b4' (by decide) (by decide) (by omega) (Nat.le_trans wd_le (by omega)) (sz (by omega) (Nat.le_trans wd_le (by omega)) (by decide))
  have q5 : ∀ S, callN PP 12 "turned_over" [t13] [] S = some (.ok (.val (tD (wd m n) m fun i j => F j i)), S) := fun S => turned_over_ok (P := PP) (k := 5) hpp rfl rfl (by omega) (by omega) it13 bF2
  have q5l : ∀ S, callN PP 12 "_law_turned" [tD m n F, .int (wd m n)] [] S = some (.ok (.val (tD (wd m n) m fun i j => F j i)), S) := fun S => lturned_ok (P := PP) (k := 11) rfl rfl wd_le (by omega) (by omega)
  have r5 : ∀ S, biD S .repr [tD (wd m n) m fun i j => F j i] = some (.val (.str (rT (tD (wd m n) m fun i j => F j i)))) := fun S => rep_tD (k := 40) (fun i hi j hj => (bF j hj i (Nat.lt_of_lt_of_le hi wd_le)).mono (by decide)) (by decide) (by decide) (Nat.le_trans wd_le (by omega)) (by omega) (sz (Nat.le_trans wd_le (by omega)) (by omega) (by decide))
  have q7 : ∀ S, callN PP 12 "unit_table" [.int m] [] S = some (.ok (.val (tD m m fun i j => if j = i then 1 else 0)), S) := fun S => unit_table_ok (P := PP) (k := 9) hr rfl rfl rfl rfl (by omega)
  have q7l : ∀ S, callN PP 12 "_law_unit" [.int m] [] S = some (.ok (.val (tD m m fun i j => if j = i then 1 else 0)), S) := fun S => lunit_ok (P := PP) (k := 11) rfl rfl (by omega)
  have b1 : ∀ i < m, ∀ j < m, Rb 1 ((fun i j => if j = i then (1 : Rat) else 0) i j) := fun i _ j _ => ite_rb ⟨by unfold Sm; decide, by unfold Sm; decide⟩ z_rb0
  have r7 : ∀ S, biD S .repr [tD m m fun i j => if j = i then (1 : Rat) else 0] = some (.val (.str (rT (tD m m fun i j => if j = i then (1 : Rat) else 0)))) := fun S => rep_tD (k := 40) (fun i hi j hj => (b1 i hi j hj).mono (by decide)) (by decide) (by decide) (by omega) (by omega) (sz (by omega) (by omega) (by decide))
  -- powers
  obtain ⟨v0, _⟩ := pr_ok (m := m) (n := m) (p := m) (c := 60) b1 bQ m3 (by decide) (by decide)
  have e1 : ∀ i < m, ∀ j < m, pw m Q 1 i j = Q i j := fun i hi j hj => by
    show sumN m (fun t => (if t = i then 1 else 0) * Q t j) = _
    rw [sum_delta, if_pos hi]
  have B1 : ∀ i < m, ∀ j < m, Rb 15 (pw m Q 1 i j) := fun i hi j hj => by rw [e1 i hi j hj]; exact bQ i hi j hj
  obtain ⟨v1, B2⟩ := pr_ok (m := m) (n := m) (p := m) (c := 94) B1 bQ m3 (by decide) (by decide)
  obtain ⟨v2, B3⟩ := pr_ok (m := m) (n := m) (p := m) (c := 331) B2 bQ m3 (by decide) (by decide)
  obtain ⟨v3, B4⟩ := pr_ok (m := m) (n := m) (p := m) (c := 1042) B3 bQ m3 (by decide) (by decide)
  obtain ⟨v4, B5⟩ := pr_ok (m := m) (n := m) (p := m) (c := 3175) B4 bQ m3 (by decide) (by decide)
  have V : ∀ t, t ≤ 4 → PrOk m m m (pw m Q t) Q := fun t h4 => by
    match t, h4 with
    | 0, _ => exact v0
    | 1, _ => exact v1
    | 2, _ => exact v2
    | 3, _ => exact v3
    | 4, _ => exact v4
  have BB : ∀ t, t ≤ 4 → ∀ i < m, ∀ j < m, Rb 1042 (pw m Q t i j) := fun t h4 i hi j hj => by
    match t, h4 with
    | 0, _ => exact (b1 i hi j hj).mono (by decide)
    | 1, _ => exact (B1 i hi j hj).mono (by decide)
    | 2, _ => exact (B2 i hi j hj).mono (by decide)
    | 3, _ => exact (B3 i hi j hj).mono (by decide)
    | 4, _ => exact B4 i hi j hj
  have q8 : ∀ S, callN PP 12 "table_product" [tD m m fun i j => if j = i then 1 else 0, tD m m Q] [] S = some (.ok (.val (tD m m Q)), S) := fun S => by
    have := table_product_ok (P := PP) (k := 4) (L := []) (S := S) hpp rfl (by omega) (by omega) (by omega) tD_hd tD_hd bQ2 v0
    rw [wd_self, show (mm m (fun i j => if j = i then 1 else 0) Q) = pw m Q 1 from rfl, tD_congr e1] at this
    exact this
  have q9 : ∀ S, callN PP 12 "table_power" [t16, .int many] [] S = some (.ok (.val (tD m m (pw m Q many))), S) := fun S => table_power_ok (P := PP) (k := 4) hpp rfl rfl rfl rfl rfl rfl rfl (by omega) (by omega) it16 bQ2 (fun t hlt => V t (by omega))
  have q9b : ∀ S, callN PP 12 "table_power" [tD m m Q, .int many] [] S = some (.ok (.val (tD m m (pw m Q many))), S) := fun S => table_power_ok (P := PP) (k := 4) hpp rfl rfl rfl rfl rfl rfl rfl (by omega) (by omega) tD_hd bQ2 (fun t hlt => V t (by omega))
  have q10a : ∀ S, callN PP 12 "table_product" [tD m m (pw m Q many), tD m m Q] [] S = some (.ok (.val (tD m m (pw m Q (many + 1)))), S) := fun S => by
    have := table_product_ok (P := PP) (k := 4) (L := []) (S := S) hpp rfl (by omega) (by omega) (by omega) tD_hd tD_hd bQ2 (V many many4)
    rw [wd_self] at this
    exact this
  have q10b : ∀ S, callN PP 12 "table_power" [tD m m Q, .int ((many : Int) + 1)] [] S = some (.ok (.val (tD m m (pw m Q (many + 1)))), S) := fun S => table_power_ok (P := PP) (k := 4) (many := many + 1) hpp rfl rfl rfl rfl rfl rfl rfl (by omega) (by omega) tD_hd bQ2 (fun t hlt => V t (by omega))
  have r9 : ∀ S, biD S .repr [tD m m (pw m Q many)] = some (.val (.str (rT (tD m m (pw m Q many))))) := fun S => rep_tD (k := 1042) (BB many many4) (by decide) (by decide) (by omega) (by omega) (sz (by omega) (by omega) (by decide))
  -- sums of products
  obtain ⟨w1, u1⟩ := pr_ok (m := m) (n := m) (p := n) (c := 100) bQ bF m3 (by decide) (by decide)
  obtain ⟨w2, u2⟩ := pr_ok (m := m) (n := m) (p := n) (c := 100) bQ bG m3 (by decide) (by decide)
  have bFG : ∀ i < m, ∀ j < n, Rb 31 (F i j + 1 * G i j) := fun i hi j hj => by rw [Rat.one_mul]; exact (bF i hi j hj).add (bG i hi j hj)
  obtain ⟨w3, u3⟩ := pr_ok (m := m) (n := m) (p := n) (c := 200) bQ bFG m3 (by decide) (by decide)
  have q10c : ∀ S, callN PP 12 "table_product" [tD m m Q, tD m n F] [] S = some (.ok (.val (tD m (wd m n) (mm m Q F))), S) := fun S => table_product_ok (P := PP) (k := 4) hpp rfl (by omega) (by omega) (by omega) tD_hd tD_hd bF2 w1
  have q10d : ∀ S, callN PP 12 "table_product" [tD m m Q, tD m n G] [] S = some (.ok (.val (tD m (wd m n) (mm m Q G))), S) := fun S => table_product_ok (P := PP) (k := 4) hpp rfl (by omega) (by omega) (by omega) tD_hd tD_hd bG2 w2
  have q10e : ∀ S, callN PP 12 "table_sum" [tD m n F, tD m n G] [] S = some (.ok (.val (tD m n fun i j => F i j + 1 * G i j)), S) := fun S => table_sum_ok (P := PP) (k := 4) ht hs rfl rfl rfl rfl rfl rfl (by omega) (by omega) tD_hd tD_hd bF2 (fun i hi j hj => (bG i hi j hj).mono (by decide))
  have q11 : ∀ S, callN PP 12 "table_sum" [tD m (wd m n) (mm m Q F), tD m (wd m n) (mm m Q G)] [] S = some (.ok (.val (tD m (wd m n) (mm m Q fun i j => F i j + 1 * G i j))), S) := fun S => by
    have := table_sum_ok (P := PP) (k := 4) (m := m) (n := wd m n) (u := mm m Q F) (v := mm m Q G) (L := []) (S := S) ht hs rfl rfl rfl rfl rfl rfl (by omega) (Nat.le_trans wd_le (by omega)) tD_hd tD_hd (fun i hi j hj => (u1 i hi j (Nat.lt_of_lt_of_le hj wd_le)).mono (by decide)) (fun i hi j hj => (u2 i hi j (Nat.lt_of_lt_of_le hj wd_le)).mono (by decide))
    have eq : (tD m (wd m n) fun i j => mm m Q F i j + 1 * mm m Q G i j) = tD m (wd m n) (mm m Q fun i j => F i j + 1 * G i j) := tD_congr fun i _ j _ => (sum_add (n := m) (f := fun t => Q i t * F t j) (g := fun t => Q i t * G t j)).trans (sum_congr fun t _ => by grind)
    rw [eq] at this
    exact this
  have q11b : ∀ S, callN PP 12 "table_product" [tD m m Q, tD m n fun i j => F i j + 1 * G i j] [] S = some (.ok (.val (tD m (wd m n) (mm m Q fun i j => F i j + 1 * G i j))), S) := fun S => table_product_ok (P := PP) (k := 4) hpp rfl (by omega) (by omega) (by omega) tD_hd tD_hd (fun i hi j hj => (bFG i hi j hj).mono (by decide)) w3
  -- turned over
  have q12a : ∀ S, callN PP 12 "turned_over" [tD m (wd n d) (mm n F K)] [] S = some (.ok (.val (tD (wd m (wd n d)) m fun i j => mm n F K j i)), S) := fun S => turned_over_ok (P := PP) (k := 5) hpp rfl rfl (by omega) (Nat.le_trans wd_le (by omega)) tD_hd (fun i hi j hj => (b4' i hi j hj).mono (by decide))
  have q12b : ∀ S, callN PP 12 "turned_over" [tD n d K] [] S = some (.ok (.val (tD (wd n d) n fun i j => K j i)), S) := fun S => turned_over_ok (P := PP) (k := 5) hpp rfl rfl (by omega) (by omega) tD_hd bK2
  have q12c : ∀ S, callN PP 12 "turned_over" [tD m n F] [] S = some (.ok (.val (tD (wd m n) m fun i j => F j i)), S) := fun S => turned_over_ok (P := PP) (k := 5) hpp rfl rfl (by omega) (by omega) tD_hd bF2
  simp only [Nat.reduceAdd] at c0 c1 c2 c3 c4 c5 c6 c7 c8 c9 c10 c11 c12 c13 c14 c15 c16
  have s3 : small62 3 = true := rfl
  have t3 : (3 : Int).toNat = 3 := rfl
  obtain ⟨s', r, J⟩ := for_rng (t := [15]) (one := true) (body := sL (ev PP (callN PP 12) 58) [(.set (.nm 14) (.call "_law_product" [(.var 14), (.var 11), (.var 12)]))]) (enc := fun i => .int (i : Nat)) (n := many)
    (s := ⟨[sc, .val (.cel 0), .val dk, .val (.int m), .val (.int n), .val (.int d), .val (tD m n F), .val (tD m n G), .val (tD n d K), .val (qD x), .val (tD m (wd n d) (mm n F K)), .val (tD m m Q), .val (.int m), .val (.int many), .val (tD m m fun i j => if j = i then 1 else 0), e15, .un, .un, .un, .un, .un, .un, .un, .un, .un, .un, .un], [p16.c], []⟩)
    (fun i s => ∃ e, Nl e ∧ s = ⟨[sc, .val (.cel 0), .val dk, .val (.int m), .val (.int n), .val (.int d), .val (tD m n F), .val (tD m n G), .val (tD n d K), .val (qD x), .val (tD m (wd n d) (mm n F K)), .val (tD m m Q), .val (.int m), .val (.int many), .val (tD m m (pw m Q i)), e, .un, .un, .un, .un, .un, .un, .un, .un, .un, .un, .un], [p16.c], []⟩)
    ⟨e15, h15, rfl⟩ (fun i s hi ⟨e, he, es⟩ => by
      subst es
      have e1 := lproduct_ok (P := PP) (k := 6) (m := m) (n := m) (p := m) (x := m) (u := pw m Q i) (v := Q) (L := []) (S := [p16.c]) ha rfl rfl rfl (Nat.le_refl m) (by omega) (by omega) (by omega) (V i (by omega)).1 (V i (by omega)).2
      simp only [Nat.reduceAdd] at e1
      refine ⟨⟨[sc, .val (.cel 0), .val dk, .val (.int m), .val (.int n), .val (.int d), .val (tD m n F), .val (tD m n G), .val (tD n d K), .val (qD x), .val (tD m (wd n d) (mm n F K)), .val (tD m m Q), .val (.int m), .val (.int many), .val (tD m m (pw m Q (i + 1))), .val (.int (i : Nat)), .un, .un, .un, .un, .un, .un, .un, .un, .un, .un, .un], [p16.c], []⟩, ?_, ⟨_, .v, rfl⟩⟩
      rw [z_lap]
      simp only [↓Z, Vl, VC, ↓ZL, ↓ZC, ↓reduceIte, Nat.reduceAdd, Nat.reduceSub, q_i0, q_i1, zipR, z_kok, z_ret, eq_self, decide_true, decide_false, Bool.not_true, Bool.not_false, len_r, List.length_range, List.length_map, z_putnm, z_Ts_nil, z_Ts_cons, Int.toNat_natCast, range_map, he.fre _ _, ↓z_callS e1, pw])
  obtain ⟨e15', n15', rfl⟩ := J
  refine ⟨p17, .val (.int m), .val (.int n), .val (.int d), .val (tD m n F), .val (tD m n G), .val (tD n d K), .val (qD x), .val (tD m (wd n d) (mm n F K)), .val (tD m m Q), .val (.int m), .val (.int many), .val (tD m m (pw m Q many)), e15', o17, by omega, .v, .v, .v, .v, .v, .v, .v, .v, .v, .v, .v, .v, n15', ?_⟩
  rw [z_lap]
  simp only [↓Z, Vl, VC, ↓ZL, ↓ZC, ↓reduceIte, Nat.reduceAdd, Nat.reduceSub, q_i0, q_i1, zipR, z_kok, z_ret, eq_self, decide_true, decide_false, Bool.not_true, Bool.not_false, len_r, List.length_range, List.length_map, z_putnm, z_Ts_nil, z_Ts_cons, Int.toNat_natCast, range_map, lapB, s3, t3, h2.fre _ _, h3.fre _ _, h4.fre _ _, h5.fre _ _, h6.fre _ _, h7.fre _ _, h8.fre _ _, h9.fre _ _, h10.fre _ _, h11.fre _ _, h12.fre _ _, h13.fre _ _, h14.fre _ _, h15.fre _ _]
  rw [z_runD c0]
  simp only [↓Z, Vl, VC, ↓ZL, ↓ZC, ↓reduceIte, Nat.reduceAdd, Nat.reduceSub, q_i0, q_i1, zipR, z_kok, z_ret, eq_self, decide_true, decide_false, Bool.not_true, Bool.not_false, len_r, List.length_range, List.length_map, z_putnm, z_Ts_nil, z_Ts_cons, Int.toNat_natCast, range_map, h2.fre _ _, h3.fre _ _, h4.fre _ _, h5.fre _ _, h6.fre _ _, h7.fre _ _, h8.fre _ _, h9.fre _ _, h10.fre _ _, h11.fre _ _, h12.fre _ _, h13.fre _ _, h14.fre _ _, h15.fre _ _, s3, t3, ↓z_callS c1, ↓z_callSD c1, ↓z_callS c2, ↓z_callSD c2, ↓z_callS c3, ↓z_callSD c3, ↓z_callS c4, ↓z_callSD c4, ↓z_callS c5, ↓z_callSD c5, ↓z_callS c6, ↓z_callSD c6, ↓z_callS c7, ↓z_callSD c7, ↓z_callS c8, ↓z_callSD c8, ↓z_callS c9, ↓z_callSD c9, ↓z_callS c10, ↓z_callSD c10, ↓z_callS c11, ↓z_callSD c11, ↓z_callS c12, ↓z_callSD c12, ↓z_callS c13, ↓z_callSD c13, ↓z_callS c14, ↓z_callSD c14, ↓z_callS c15, ↓z_callSD c15, ↓z_callS c16, ↓z_callSD c16, ↓z_callS (q1 _), ↓z_callSD (q1 _), ↓z_callS (q1l _), ↓z_callSD (q1l _), ↓z_callS (q2 _), ↓z_callSD (q2 _), ↓z_callS (q3 _), ↓z_callSD (q3 _), ↓z_callS (q4 _), ↓z_callSD (q4 _), ↓z_callS (q4l _), ↓z_callSD (q4l _), ↓z_callS (qw8 _), ↓z_callSD (qw8 _), ↓z_callS (qw6 _), ↓z_callSD (qw6 _), ↓z_callS (q5 _), ↓z_callSD (q5 _), ↓z_callS (q5l _), ↓z_callSD (q5l _), ↓z_callS (q7 _), ↓z_callSD (q7 _), ↓z_callS (q7l _), ↓z_callSD (q7l _), ↓z_callS (q8 _), ↓z_callSD (q8 _), ↓z_callS (q9 _), ↓z_callSD (q9 _), ↓z_callS (q9b _), ↓z_callSD (q9b _), ↓z_callS (q10a _), ↓z_callSD (q10a _), ↓z_callS (q10b _), ↓z_callSD (q10b _), ↓z_callS (q10c _), ↓z_callSD (q10c _), ↓z_callS (q10d _), ↓z_callSD (q10d _), ↓z_callS (q10e _), ↓z_callSD (q10e _), ↓z_callS (q11 _), ↓z_callSD (q11 _), ↓z_callS (q11b _), ↓z_callSD (q11b _), r1, r2, r3, r4, r5, r7, r9, tD_ne]
  rw [z_runD (lcB_enc (fun i => .tup [rD n (F i), rD n (G i)]) (fun i => rD n fun j => F i j + G i j * -1) ?_ ?_ ?_ ?_ ?_)]
  rotate_left
  · exact range_len_le (by omega)
  · rfl
  · rfl
  · simp only [List.all_cons, List.all_nil, isV_s, isV_z, Bool.and_self]
  · intro i hi
    have hi := List.mem_range.mp hi
    have a1 := lscaled_ok (P := PP) (k := 8) (n := n) (u := G i) (c := -1) (L := []) (S := [p9.c]) ha rfl (by omega) (bG2 i hi) (neg1.mono (by decide))
    have a2 := ladd_ok (P := PP) (k := 8) (n := n) (u := F i) (v := fun j => G i j * -1) (L := []) (S := [p9.c]) ha rfl (by omega) (bF2 i hi) (fun j hj => ((bG i hi j hj).mul neg1).mono (by decide))
    simp only [Nat.reduceAdd] at a1 a2
    rw [show qD (-1 : Rat) = .tup [.int (-1), .int 1] from rfl] at a1
    simp only [↓Z, Vl, VC, ↓ZL, ↓ZC, ↓reduceIte, Nat.reduceAdd, Nat.reduceSub, q_i0, q_i1, zipR, z_kok, z_ret, eq_self, decide_true, decide_false, Bool.not_true, Bool.not_false, len_r, List.length_range, List.length_map, z_putnm, z_Ts_nil, z_Ts_cons, Int.toNat_natCast, range_map, ↓z_callSD a1, ↓z_callSD a2]
  simp only [↓Z, Vl, VC, ↓ZL, ↓ZC, ↓reduceIte, Nat.reduceAdd, Nat.reduceSub, q_i0, q_i1, zipR, z_kok, z_ret, eq_self, decide_true, decide_false, Bool.not_true, Bool.not_false, len_r, List.length_range, List.length_map, z_putnm, z_Ts_nil, z_Ts_cons, Int.toNat_natCast, range_map, h2.fre _ _, h3.fre _ _, h4.fre _ _, h5.fre _ _, h6.fre _ _, h7.fre _ _, h8.fre _ _, h9.fre _ _, h10.fre _ _, h11.fre _ _, h12.fre _ _, h13.fre _ _, h14.fre _ _, h15.fre _ _, s3, t3, ↓z_callS c1, ↓z_callSD c1, ↓z_callS c2, ↓z_callSD c2, ↓z_callS c3, ↓z_callSD c3, ↓z_callS c4, ↓z_callSD c4, ↓z_callS c5, ↓z_callSD c5, ↓z_callS c6, ↓z_callSD c6, ↓z_callS c7, ↓z_callSD c7, ↓z_callS c8, ↓z_callSD c8, ↓z_callS c9, ↓z_callSD c9, ↓z_callS c10, ↓z_callSD c10, ↓z_callS c11, ↓z_callSD c11, ↓z_callS c12, ↓z_callSD c12, ↓z_callS c13, ↓z_callSD c13, ↓z_callS c14, ↓z_callSD c14, ↓z_callS c15, ↓z_callSD c15, ↓z_callS c16, ↓z_callSD c16, ↓z_callS (q1 _), ↓z_callSD (q1 _), ↓z_callS (q1l _), ↓z_callSD (q1l _), ↓z_callS (q2 _), ↓z_callSD (q2 _), ↓z_callS (q3 _), ↓z_callSD (q3 _), ↓z_callS (q4 _), ↓z_callSD (q4 _), ↓z_callS (q4l _), ↓z_callSD (q4l _), ↓z_callS (qw8 _), ↓z_callSD (qw8 _), ↓z_callS (qw6 _), ↓z_callSD (qw6 _), ↓z_callS (q5 _), ↓z_callSD (q5 _), ↓z_callS (q5l _), ↓z_callSD (q5l _), ↓z_callS (q7 _), ↓z_callSD (q7 _), ↓z_callS (q7l _), ↓z_callSD (q7l _), ↓z_callS (q8 _), ↓z_callSD (q8 _), ↓z_callS (q9 _), ↓z_callSD (q9 _), ↓z_callS (q9b _), ↓z_callSD (q9b _), ↓z_callS (q10a _), ↓z_callSD (q10a _), ↓z_callS (q10b _), ↓z_callSD (q10b _), ↓z_callS (q10c _), ↓z_callSD (q10c _), ↓z_callS (q10d _), ↓z_callSD (q10d _), ↓z_callS (q10e _), ↓z_callSD (q10e _), ↓z_callS (q11 _), ↓z_callSD (q11 _), ↓z_callS (q11b _), ↓z_callSD (q11b _), r1, r2, r3, r4, r5, r7, r9, tD_ne]
  rw [z_runD (lcB_enc (fun i => rD n (F i)) (fun i => rD n fun j => F i j * x) ?_ ?_ ?_ ?_ ?_)]
  rotate_left
  · exact range_len_le (by omega)
  · rfl
  · rfl
  · simp only [List.all_cons, List.all_nil, isV_s, isV_z, Bool.and_self]
  · intro i hi
    have hi := List.mem_range.mp hi
    have a1 := lscaled_ok (P := PP) (k := 8) (n := n) (u := F i) (c := x) (L := []) (S := [p11.c]) ha rfl (by omega) (bF2 i hi) (bx.mono (by decide))
    simp only [Nat.reduceAdd] at a1
    simp only [↓Z, Vl, VC, ↓ZL, ↓ZC, ↓reduceIte, Nat.reduceAdd, Nat.reduceSub, q_i0, q_i1, zipR, z_kok, z_ret, eq_self, decide_true, decide_false, Bool.not_true, Bool.not_false, len_r, List.length_range, List.length_map, z_putnm, z_Ts_nil, z_Ts_cons, Int.toNat_natCast, range_map, ↓z_callSD a1]
  have s6m : small62 (many : Int) = true := s6N (by omega)
  by_cases gm : (0 : Int) < m
  · by_cases gn : (0 : Int) < n
    · by_cases gd : (0 : Int) < d
      · have wmn : wd m n = n := wd_pos (by omega)
        have wnd : wd n d = d := wd_pos (by omega)
        have wmd : wd m d = d := wd_pos (by omega)
        have wnm : wd n m = m := wd_pos (by omega)
        obtain ⟨w5, u5⟩ := pr_ok (m := d) (n := n) (p := m) (u := fun i j => K j i) (v := fun i j => F j i) (c := 100) (fun i hi t ht => bK t ht i hi) (fun t ht j hj => bF j hj t ht) n3 (by decide) (by decide)
        have q12d : ∀ S, callN PP 12 "table_product" [tD d n fun i j => K j i, tD n m fun i j => F j i] [] S = some (.ok (.val (tD d m fun i j => mm n F K j i)), S) := fun S => by
          have := table_product_ok (P := PP) (k := 4) (m := d) (n := n) (p := m) (u := fun i j => K j i) (v := fun i j => F j i) (L := []) (S := S) hpp rfl (by omega) (by omega) (by omega) tD_hd tD_hd (fun i hi j hj => (bF j hj i hi).mono (by decide)) w5
          have eq : tD d m (mm n (fun i j => K j i) fun i j => F j i) = tD d m fun i j => mm n F K j i := tD_congr fun i _ j _ => sum_congr fun t _ => Rat.mul_comm _ _
          rw [wnm, eq] at this
          exact this
        simp only [wnd, wmn, wmd] at q12a q12b q12c
        simp only [wnd] at q4 qw8 q4l r4 r
        simp only [↓Z, Vl, VC, ↓ZL, ↓ZC, ↓reduceIte, Nat.reduceAdd, Nat.reduceSub, q_i0, q_i1, zipR, z_kok, z_ret, eq_self, decide_true, decide_false, Bool.not_true, Bool.not_false, len_r, List.length_range, List.length_map, z_putnm, z_Ts_nil, z_Ts_cons, Int.toNat_natCast, range_map, h2.fre _ _, h3.fre _ _, h4.fre _ _, h5.fre _ _, h6.fre _ _, h7.fre _ _, h8.fre _ _, h9.fre _ _, h10.fre _ _, h11.fre _ _, h12.fre _ _, h13.fre _ _, h14.fre _ _, h15.fre _ _, s3, t3, ↓z_callS c1, ↓z_callSD c1, ↓z_callS c2, ↓z_callSD c2, ↓z_callS c3, ↓z_callSD c3, ↓z_callS c4, ↓z_callSD c4, ↓z_callS c5, ↓z_callSD c5, ↓z_callS c6, ↓z_callSD c6, ↓z_callS c7, ↓z_callSD c7, ↓z_callS c8, ↓z_callSD c8, ↓z_callS c9, ↓z_callSD c9, ↓z_callS c10, ↓z_callSD c10, ↓z_callS c11, ↓z_callSD c11, ↓z_callS c12, ↓z_callSD c12, ↓z_callS c13, ↓z_callSD c13, ↓z_callS c14, ↓z_callSD c14, ↓z_callS c15, ↓z_callSD c15, ↓z_callS c16, ↓z_callSD c16, ↓z_callS (q1 _), ↓z_callSD (q1 _), ↓z_callS (q1l _), ↓z_callSD (q1l _), ↓z_callS (q2 _), ↓z_callSD (q2 _), ↓z_callS (q3 _), ↓z_callSD (q3 _), ↓z_callS (q4 _), ↓z_callSD (q4 _), ↓z_callS (q4l _), ↓z_callSD (q4l _), ↓z_callS (qw8 _), ↓z_callSD (qw8 _), ↓z_callS (qw6 _), ↓z_callSD (qw6 _), ↓z_callS (q5 _), ↓z_callSD (q5 _), ↓z_callS (q5l _), ↓z_callSD (q5l _), ↓z_callS (q7 _), ↓z_callSD (q7 _), ↓z_callS (q7l _), ↓z_callSD (q7l _), ↓z_callS (q8 _), ↓z_callSD (q8 _), ↓z_callS (q9 _), ↓z_callSD (q9 _), ↓z_callS (q9b _), ↓z_callSD (q9b _), ↓z_callS (q10a _), ↓z_callSD (q10a _), ↓z_callS (q10b _), ↓z_callSD (q10b _), ↓z_callS (q10c _), ↓z_callSD (q10c _), ↓z_callS (q10d _), ↓z_callSD (q10d _), ↓z_callS (q10e _), ↓z_callSD (q10e _), ↓z_callS (q11 _), ↓z_callSD (q11 _), ↓z_callS (q11b _), ↓z_callSD (q11b _), r1, r2, r3, r4, r5, r7, r9, tD_ne, gm, gn, gd, s6m, wnd, ↓z_callSD (q12a _), ↓z_callSD (q12b _), ↓z_callSD (q12c _), ↓z_callSD (q12d _)]
        rw [z_run r]
        simp only [↓Z, Vl, VC, ↓ZL, ↓ZC, ↓reduceIte, Nat.reduceAdd, Nat.reduceSub, q_i0, q_i1, zipR, z_kok, z_ret, eq_self, decide_true, decide_false, Bool.not_true, Bool.not_false, len_r, List.length_range, List.length_map, z_putnm, z_Ts_nil, z_Ts_cons, Int.toNat_natCast, range_map, h2.fre _ _, h3.fre _ _, h4.fre _ _, h5.fre _ _, h6.fre _ _, h7.fre _ _, h8.fre _ _, h9.fre _ _, h10.fre _ _, h11.fre _ _, h12.fre _ _, h13.fre _ _, h14.fre _ _, h15.fre _ _, s3, t3, ↓z_callS c1, ↓z_callSD c1, ↓z_callS c2, ↓z_callSD c2, ↓z_callS c3, ↓z_callSD c3, ↓z_callS c4, ↓z_callSD c4, ↓z_callS c5, ↓z_callSD c5, ↓z_callS c6, ↓z_callSD c6, ↓z_callS c7, ↓z_callSD c7, ↓z_callS c8, ↓z_callSD c8, ↓z_callS c9, ↓z_callSD c9, ↓z_callS c10, ↓z_callSD c10, ↓z_callS c11, ↓z_callSD c11, ↓z_callS c12, ↓z_callSD c12, ↓z_callS c13, ↓z_callSD c13, ↓z_callS c14, ↓z_callSD c14, ↓z_callS c15, ↓z_callSD c15, ↓z_callS c16, ↓z_callSD c16, ↓z_callS (q1 _), ↓z_callSD (q1 _), ↓z_callS (q1l _), ↓z_callSD (q1l _), ↓z_callS (q2 _), ↓z_callSD (q2 _), ↓z_callS (q3 _), ↓z_callSD (q3 _), ↓z_callS (q4 _), ↓z_callSD (q4 _), ↓z_callS (q4l _), ↓z_callSD (q4l _), ↓z_callS (qw8 _), ↓z_callSD (qw8 _), ↓z_callS (qw6 _), ↓z_callSD (qw6 _), ↓z_callS (q5 _), ↓z_callSD (q5 _), ↓z_callS (q5l _), ↓z_callSD (q5l _), ↓z_callS (q7 _), ↓z_callSD (q7 _), ↓z_callS (q7l _), ↓z_callSD (q7l _), ↓z_callS (q8 _), ↓z_callSD (q8 _), ↓z_callS (q9 _), ↓z_callSD (q9 _), ↓z_callS (q9b _), ↓z_callSD (q9b _), ↓z_callS (q10a _), ↓z_callSD (q10a _), ↓z_callS (q10b _), ↓z_callSD (q10b _), ↓z_callS (q10c _), ↓z_callSD (q10c _), ↓z_callS (q10d _), ↓z_callSD (q10d _), ↓z_callS (q10e _), ↓z_callSD (q10e _), ↓z_callS (q11 _), ↓z_callSD (q11 _), ↓z_callS (q11b _), ↓z_callSD (q11b _), r1, r2, r3, r4, r5, r7, r9, tD_ne]
      · simp only [↓Z, Vl, VC, ↓ZL, ↓ZC, ↓reduceIte, Nat.reduceAdd, Nat.reduceSub, q_i0, q_i1, zipR, z_kok, z_ret, eq_self, decide_true, decide_false, Bool.not_true, Bool.not_false, len_r, List.length_range, List.length_map, z_putnm, z_Ts_nil, z_Ts_cons, Int.toNat_natCast, range_map, h2.fre _ _, h3.fre _ _, h4.fre _ _, h5.fre _ _, h6.fre _ _, h7.fre _ _, h8.fre _ _, h9.fre _ _, h10.fre _ _, h11.fre _ _, h12.fre _ _, h13.fre _ _, h14.fre _ _, h15.fre _ _, s3, t3, ↓z_callS c1, ↓z_callSD c1, ↓z_callS c2, ↓z_callSD c2, ↓z_callS c3, ↓z_callSD c3, ↓z_callS c4, ↓z_callSD c4, ↓z_callS c5, ↓z_callSD c5, ↓z_callS c6, ↓z_callSD c6, ↓z_callS c7, ↓z_callSD c7, ↓z_callS c8, ↓z_callSD c8, ↓z_callS c9, ↓z_callSD c9, ↓z_callS c10, ↓z_callSD c10, ↓z_callS c11, ↓z_callSD c11, ↓z_callS c12, ↓z_callSD c12, ↓z_callS c13, ↓z_callSD c13, ↓z_callS c14, ↓z_callSD c14, ↓z_callS c15, ↓z_callSD c15, ↓z_callS c16, ↓z_callSD c16, ↓z_callS (q1 _), ↓z_callSD (q1 _), ↓z_callS (q1l _), ↓z_callSD (q1l _), ↓z_callS (q2 _), ↓z_callSD (q2 _), ↓z_callS (q3 _), ↓z_callSD (q3 _), ↓z_callS (q4 _), ↓z_callSD (q4 _), ↓z_callS (q4l _), ↓z_callSD (q4l _), ↓z_callS (qw8 _), ↓z_callSD (qw8 _), ↓z_callS (qw6 _), ↓z_callSD (qw6 _), ↓z_callS (q5 _), ↓z_callSD (q5 _), ↓z_callS (q5l _), ↓z_callSD (q5l _), ↓z_callS (q7 _), ↓z_callSD (q7 _), ↓z_callS (q7l _), ↓z_callSD (q7l _), ↓z_callS (q8 _), ↓z_callSD (q8 _), ↓z_callS (q9 _), ↓z_callSD (q9 _), ↓z_callS (q9b _), ↓z_callSD (q9b _), ↓z_callS (q10a _), ↓z_callSD (q10a _), ↓z_callS (q10b _), ↓z_callSD (q10b _), ↓z_callS (q10c _), ↓z_callSD (q10c _), ↓z_callS (q10d _), ↓z_callSD (q10d _), ↓z_callS (q10e _), ↓z_callSD (q10e _), ↓z_callS (q11 _), ↓z_callSD (q11 _), ↓z_callS (q11b _), ↓z_callSD (q11b _), r1, r2, r3, r4, r5, r7, r9, tD_ne, gm, gn, gd, s6m]
        rw [z_run r]
        simp only [↓Z, Vl, VC, ↓ZL, ↓ZC, ↓reduceIte, Nat.reduceAdd, Nat.reduceSub, q_i0, q_i1, zipR, z_kok, z_ret, eq_self, decide_true, decide_false, Bool.not_true, Bool.not_false, len_r, List.length_range, List.length_map, z_putnm, z_Ts_nil, z_Ts_cons, Int.toNat_natCast, range_map, h2.fre _ _, h3.fre _ _, h4.fre _ _, h5.fre _ _, h6.fre _ _, h7.fre _ _, h8.fre _ _, h9.fre _ _, h10.fre _ _, h11.fre _ _, h12.fre _ _, h13.fre _ _, h14.fre _ _, h15.fre _ _, s3, t3, ↓z_callS c1, ↓z_callSD c1, ↓z_callS c2, ↓z_callSD c2, ↓z_callS c3, ↓z_callSD c3, ↓z_callS c4, ↓z_callSD c4, ↓z_callS c5, ↓z_callSD c5, ↓z_callS c6, ↓z_callSD c6, ↓z_callS c7, ↓z_callSD c7, ↓z_callS c8, ↓z_callSD c8, ↓z_callS c9, ↓z_callSD c9, ↓z_callS c10, ↓z_callSD c10, ↓z_callS c11, ↓z_callSD c11, ↓z_callS c12, ↓z_callSD c12, ↓z_callS c13, ↓z_callSD c13, ↓z_callS c14, ↓z_callSD c14, ↓z_callS c15, ↓z_callSD c15, ↓z_callS c16, ↓z_callSD c16, ↓z_callS (q1 _), ↓z_callSD (q1 _), ↓z_callS (q1l _), ↓z_callSD (q1l _), ↓z_callS (q2 _), ↓z_callSD (q2 _), ↓z_callS (q3 _), ↓z_callSD (q3 _), ↓z_callS (q4 _), ↓z_callSD (q4 _), ↓z_callS (q4l _), ↓z_callSD (q4l _), ↓z_callS (qw8 _), ↓z_callSD (qw8 _), ↓z_callS (qw6 _), ↓z_callSD (qw6 _), ↓z_callS (q5 _), ↓z_callSD (q5 _), ↓z_callS (q5l _), ↓z_callSD (q5l _), ↓z_callS (q7 _), ↓z_callSD (q7 _), ↓z_callS (q7l _), ↓z_callSD (q7l _), ↓z_callS (q8 _), ↓z_callSD (q8 _), ↓z_callS (q9 _), ↓z_callSD (q9 _), ↓z_callS (q9b _), ↓z_callSD (q9b _), ↓z_callS (q10a _), ↓z_callSD (q10a _), ↓z_callS (q10b _), ↓z_callSD (q10b _), ↓z_callS (q10c _), ↓z_callSD (q10c _), ↓z_callS (q10d _), ↓z_callSD (q10d _), ↓z_callS (q10e _), ↓z_callSD (q10e _), ↓z_callS (q11 _), ↓z_callSD (q11 _), ↓z_callS (q11b _), ↓z_callSD (q11b _), r1, r2, r3, r4, r5, r7, r9, tD_ne]
    · simp only [↓Z, Vl, VC, ↓ZL, ↓ZC, ↓reduceIte, Nat.reduceAdd, Nat.reduceSub, q_i0, q_i1, zipR, z_kok, z_ret, eq_self, decide_true, decide_false, Bool.not_true, Bool.not_false, len_r, List.length_range, List.length_map, z_putnm, z_Ts_nil, z_Ts_cons, Int.toNat_natCast, range_map, h2.fre _ _, h3.fre _ _, h4.fre _ _, h5.fre _ _, h6.fre _ _, h7.fre _ _, h8.fre _ _, h9.fre _ _, h10.fre _ _, h11.fre _ _, h12.fre _ _, h13.fre _ _, h14.fre _ _, h15.fre _ _, s3, t3, ↓z_callS c1, ↓z_callSD c1, ↓z_callS c2, ↓z_callSD c2, ↓z_callS c3, ↓z_callSD c3, ↓z_callS c4, ↓z_callSD c4, ↓z_callS c5, ↓z_callSD c5, ↓z_callS c6, ↓z_callSD c6, ↓z_callS c7, ↓z_callSD c7, ↓z_callS c8, ↓z_callSD c8, ↓z_callS c9, ↓z_callSD c9, ↓z_callS c10, ↓z_callSD c10, ↓z_callS c11, ↓z_callSD c11, ↓z_callS c12, ↓z_callSD c12, ↓z_callS c13, ↓z_callSD c13, ↓z_callS c14, ↓z_callSD c14, ↓z_callS c15, ↓z_callSD c15, ↓z_callS c16, ↓z_callSD c16, ↓z_callS (q1 _), ↓z_callSD (q1 _), ↓z_callS (q1l _), ↓z_callSD (q1l _), ↓z_callS (q2 _), ↓z_callSD (q2 _), ↓z_callS (q3 _), ↓z_callSD (q3 _), ↓z_callS (q4 _), ↓z_callSD (q4 _), ↓z_callS (q4l _), ↓z_callSD (q4l _), ↓z_callS (qw8 _), ↓z_callSD (qw8 _), ↓z_callS (qw6 _), ↓z_callSD (qw6 _), ↓z_callS (q5 _), ↓z_callSD (q5 _), ↓z_callS (q5l _), ↓z_callSD (q5l _), ↓z_callS (q7 _), ↓z_callSD (q7 _), ↓z_callS (q7l _), ↓z_callSD (q7l _), ↓z_callS (q8 _), ↓z_callSD (q8 _), ↓z_callS (q9 _), ↓z_callSD (q9 _), ↓z_callS (q9b _), ↓z_callSD (q9b _), ↓z_callS (q10a _), ↓z_callSD (q10a _), ↓z_callS (q10b _), ↓z_callSD (q10b _), ↓z_callS (q10c _), ↓z_callSD (q10c _), ↓z_callS (q10d _), ↓z_callSD (q10d _), ↓z_callS (q10e _), ↓z_callSD (q10e _), ↓z_callS (q11 _), ↓z_callSD (q11 _), ↓z_callS (q11b _), ↓z_callSD (q11b _), r1, r2, r3, r4, r5, r7, r9, tD_ne, gm, gn, s6m]
      rw [z_run r]
      simp only [↓Z, Vl, VC, ↓ZL, ↓ZC, ↓reduceIte, Nat.reduceAdd, Nat.reduceSub, q_i0, q_i1, zipR, z_kok, z_ret, eq_self, decide_true, decide_false, Bool.not_true, Bool.not_false, len_r, List.length_range, List.length_map, z_putnm, z_Ts_nil, z_Ts_cons, Int.toNat_natCast, range_map, h2.fre _ _, h3.fre _ _, h4.fre _ _, h5.fre _ _, h6.fre _ _, h7.fre _ _, h8.fre _ _, h9.fre _ _, h10.fre _ _, h11.fre _ _, h12.fre _ _, h13.fre _ _, h14.fre _ _, h15.fre _ _, s3, t3, ↓z_callS c1, ↓z_callSD c1, ↓z_callS c2, ↓z_callSD c2, ↓z_callS c3, ↓z_callSD c3, ↓z_callS c4, ↓z_callSD c4, ↓z_callS c5, ↓z_callSD c5, ↓z_callS c6, ↓z_callSD c6, ↓z_callS c7, ↓z_callSD c7, ↓z_callS c8, ↓z_callSD c8, ↓z_callS c9, ↓z_callSD c9, ↓z_callS c10, ↓z_callSD c10, ↓z_callS c11, ↓z_callSD c11, ↓z_callS c12, ↓z_callSD c12, ↓z_callS c13, ↓z_callSD c13, ↓z_callS c14, ↓z_callSD c14, ↓z_callS c15, ↓z_callSD c15, ↓z_callS c16, ↓z_callSD c16, ↓z_callS (q1 _), ↓z_callSD (q1 _), ↓z_callS (q1l _), ↓z_callSD (q1l _), ↓z_callS (q2 _), ↓z_callSD (q2 _), ↓z_callS (q3 _), ↓z_callSD (q3 _), ↓z_callS (q4 _), ↓z_callSD (q4 _), ↓z_callS (q4l _), ↓z_callSD (q4l _), ↓z_callS (qw8 _), ↓z_callSD (qw8 _), ↓z_callS (qw6 _), ↓z_callSD (qw6 _), ↓z_callS (q5 _), ↓z_callSD (q5 _), ↓z_callS (q5l _), ↓z_callSD (q5l _), ↓z_callS (q7 _), ↓z_callSD (q7 _), ↓z_callS (q7l _), ↓z_callSD (q7l _), ↓z_callS (q8 _), ↓z_callSD (q8 _), ↓z_callS (q9 _), ↓z_callSD (q9 _), ↓z_callS (q9b _), ↓z_callSD (q9b _), ↓z_callS (q10a _), ↓z_callSD (q10a _), ↓z_callS (q10b _), ↓z_callSD (q10b _), ↓z_callS (q10c _), ↓z_callSD (q10c _), ↓z_callS (q10d _), ↓z_callSD (q10d _), ↓z_callS (q10e _), ↓z_callSD (q10e _), ↓z_callS (q11 _), ↓z_callSD (q11 _), ↓z_callS (q11b _), ↓z_callSD (q11b _), r1, r2, r3, r4, r5, r7, r9, tD_ne]
  · simp only [↓Z, Vl, VC, ↓ZL, ↓ZC, ↓reduceIte, Nat.reduceAdd, Nat.reduceSub, q_i0, q_i1, zipR, z_kok, z_ret, eq_self, decide_true, decide_false, Bool.not_true, Bool.not_false, len_r, List.length_range, List.length_map, z_putnm, z_Ts_nil, z_Ts_cons, Int.toNat_natCast, range_map, h2.fre _ _, h3.fre _ _, h4.fre _ _, h5.fre _ _, h6.fre _ _, h7.fre _ _, h8.fre _ _, h9.fre _ _, h10.fre _ _, h11.fre _ _, h12.fre _ _, h13.fre _ _, h14.fre _ _, h15.fre _ _, s3, t3, ↓z_callS c1, ↓z_callSD c1, ↓z_callS c2, ↓z_callSD c2, ↓z_callS c3, ↓z_callSD c3, ↓z_callS c4, ↓z_callSD c4, ↓z_callS c5, ↓z_callSD c5, ↓z_callS c6, ↓z_callSD c6, ↓z_callS c7, ↓z_callSD c7, ↓z_callS c8, ↓z_callSD c8, ↓z_callS c9, ↓z_callSD c9, ↓z_callS c10, ↓z_callSD c10, ↓z_callS c11, ↓z_callSD c11, ↓z_callS c12, ↓z_callSD c12, ↓z_callS c13, ↓z_callSD c13, ↓z_callS c14, ↓z_callSD c14, ↓z_callS c15, ↓z_callSD c15, ↓z_callS c16, ↓z_callSD c16, ↓z_callS (q1 _), ↓z_callSD (q1 _), ↓z_callS (q1l _), ↓z_callSD (q1l _), ↓z_callS (q2 _), ↓z_callSD (q2 _), ↓z_callS (q3 _), ↓z_callSD (q3 _), ↓z_callS (q4 _), ↓z_callSD (q4 _), ↓z_callS (q4l _), ↓z_callSD (q4l _), ↓z_callS (qw8 _), ↓z_callSD (qw8 _), ↓z_callS (qw6 _), ↓z_callSD (qw6 _), ↓z_callS (q5 _), ↓z_callSD (q5 _), ↓z_callS (q5l _), ↓z_callSD (q5l _), ↓z_callS (q7 _), ↓z_callSD (q7 _), ↓z_callS (q7l _), ↓z_callSD (q7l _), ↓z_callS (q8 _), ↓z_callSD (q8 _), ↓z_callS (q9 _), ↓z_callSD (q9 _), ↓z_callS (q9b _), ↓z_callSD (q9b _), ↓z_callS (q10a _), ↓z_callSD (q10a _), ↓z_callS (q10b _), ↓z_callSD (q10b _), ↓z_callS (q10c _), ↓z_callSD (q10c _), ↓z_callS (q10d _), ↓z_callSD (q10d _), ↓z_callS (q10e _), ↓z_callSD (q10e _), ↓z_callS (q11 _), ↓z_callSD (q11 _), ↓z_callS (q11b _), ↓z_callSD (q11b _), r1, r2, r3, r4, r5, r7, r9, tD_ne, gm, s6m]
    rw [z_run r]
    simp only [↓Z, Vl, VC, ↓ZL, ↓ZC, ↓reduceIte, Nat.reduceAdd, Nat.reduceSub, q_i0, q_i1, zipR, z_kok, z_ret, eq_self, decide_true, decide_false, Bool.not_true, Bool.not_false, len_r, List.length_range, List.length_map, z_putnm, z_Ts_nil, z_Ts_cons, Int.toNat_natCast, range_map, h2.fre _ _, h3.fre _ _, h4.fre _ _, h5.fre _ _, h6.fre _ _, h7.fre _ _, h8.fre _ _, h9.fre _ _, h10.fre _ _, h11.fre _ _, h12.fre _ _, h13.fre _ _, h14.fre _ _, h15.fre _ _, s3, t3, ↓z_callS c1, ↓z_callSD c1, ↓z_callS c2, ↓z_callSD c2, ↓z_callS c3, ↓z_callSD c3, ↓z_callS c4, ↓z_callSD c4, ↓z_callS c5, ↓z_callSD c5, ↓z_callS c6, ↓z_callSD c6, ↓z_callS c7, ↓z_callSD c7, ↓z_callS c8, ↓z_callSD c8, ↓z_callS c9, ↓z_callSD c9, ↓z_callS c10, ↓z_callSD c10, ↓z_callS c11, ↓z_callSD c11, ↓z_callS c12, ↓z_callSD c12, ↓z_callS c13, ↓z_callSD c13, ↓z_callS c14, ↓z_callSD c14, ↓z_callS c15, ↓z_callSD c15, ↓z_callS c16, ↓z_callSD c16, ↓z_callS (q1 _), ↓z_callSD (q1 _), ↓z_callS (q1l _), ↓z_callSD (q1l _), ↓z_callS (q2 _), ↓z_callSD (q2 _), ↓z_callS (q3 _), ↓z_callSD (q3 _), ↓z_callS (q4 _), ↓z_callSD (q4 _), ↓z_callS (q4l _), ↓z_callSD (q4l _), ↓z_callS (qw8 _), ↓z_callSD (qw8 _), ↓z_callS (qw6 _), ↓z_callSD (qw6 _), ↓z_callS (q5 _), ↓z_callSD (q5 _), ↓z_callS (q5l _), ↓z_callSD (q5l _), ↓z_callS (q7 _), ↓z_callSD (q7 _), ↓z_callS (q7l _), ↓z_callSD (q7l _), ↓z_callS (q8 _), ↓z_callSD (q8 _), ↓z_callS (q9 _), ↓z_callSD (q9 _), ↓z_callS (q9b _), ↓z_callSD (q9b _), ↓z_callS (q10a _), ↓z_callSD (q10a _), ↓z_callS (q10b _), ↓z_callSD (q10b _), ↓z_callS (q10c _), ↓z_callSD (q10c _), ↓z_callS (q10d _), ↓z_callSD (q10d _), ↓z_callS (q10e _), ↓z_callSD (q10e _), ↓z_callS (q11 _), ↓z_callSD (q11 _), ↓z_callS (q11b _), ↓z_callSD (q11b _), r1, r2, r3, r4, r5, r7, r9, tD_ne]
end K12
namespace K12
open PySem PySem.Spec L2 Rf
abbrev bads : List D := [.non, .int 5, .str "12", .tup [.int 1], .tup [.tup [.int 1], .tup [.int 1, .int 2]], .tup [.tup [.str "1"]], .tup [.tup [.bl true]], .tup [.tup [.tup [.int 1, .int 0]]], .tup [.tup [.int 1], .non], .tup [.tup [.tup [.int 1, .int 2, .int 3]]], .tup (List.replicate (13 : Int).toNat [.tup [.int 1]]).flatten, .tup [.tup (List.replicate (13 : Int).toNat [.int 0]).flatten]]
abbrev odds : List D := [.non, .str "1", .tup [.int 1, .int 0], .tup [.int 1], .bl true]
abbrev fars : List D := [.int (-1), .int 13, .non, .bl true, .str "2"]
abbrev widers : List D := [.tup [.tup [.int 1]], .tup [.tup [.int 1, .int 2], .tup [.int 3, .int 4]], .tup [], .tup [.tup [.int 1, .int 2, .int 3]]]
abbrev longs : List D := [.tup [.tup [.int 1]], .tup [], .tup (List.replicate (3 : Int).toNat [.tup [.int 1, .int 2]]).flatten]
abbrev works : List D := [.fn "table_sum", .fn "table_less"]
/-- what the captured names hold -/
def LL (bad odd far wider work : D) (lng : Option D) : List (Option D) := [none, none, none, none, none, none, none, none, none, none, none, none, none, none, none, none, some bad, some odd, some far, some (.tup [.tup [.int 1, .int 2]]), some wider, some work, none, lng, none, none, none]
def FO (i : Str) (due : D) (L : List (Option D)) : Prop := ∀ S, callN PP 11 "_law_table_fault" [.lam i] L S = some (.ok (.val due), S)
def RO (due : D) : Prop := ∀ S, biD S .repr [due] = some (.val (.str (rT due)))
theorem fo0 {b o f w l k : D} {lng : Option D} (hb : b ∈ bads) (hk : k ∈ works) : FO "<lambda>0" (.tup [.str "table", b]) (LL b o f w k lng) := by
  simp only [bads, works, List.mem_cons, List.not_mem_nil, or_false] at hb hk
  rcases hb with rfl | rfl | rfl | rfl | rfl | rfl | rfl | rfl | rfl | rfl | rfl | rfl
  · rcases hk with rfl | rfl
    · exact fun _ => by kernel_rfl
    · exact fun _ => by kernel_rfl
  · rcases hk with rfl | rfl
    · exact fun _ => by kernel_rfl
    · exact fun _ => by kernel_rfl
  · rcases hk with rfl | rfl
    · exact fun _ => by kernel_rfl
    · exact fun _ => by kernel_rfl
  · rcases hk with rfl | rfl
    · exact fun _ => by kernel_rfl
    · exact fun _ => by kernel_rfl
  · rcases hk with rfl | rfl
    · exact fun _ => by kernel_rfl
    · exact fun _ => by kernel_rfl
  · rcases hk with rfl | rfl
    · exact fun _ => by kernel_rfl
    · exact fun _ => by kernel_rfl
  · rcases hk with rfl | rfl
    · exact fun _ => by kernel_rfl
    · exact fun _ => by kernel_rfl
  · rcases hk with rfl | rfl
    · exact fun _ => by kernel_rfl
    · exact fun _ => by kernel_rfl
  · rcases hk with rfl | rfl
    · exact fun _ => by kernel_rfl
    · exact fun _ => by kernel_rfl
  · rcases hk with rfl | rfl
    · exact fun _ => by kernel_rfl
    · exact fun _ => by kernel_rfl
  · rcases hk with rfl | rfl
    · exact fun _ => by kernel_rfl
    · exact fun _ => by kernel_rfl
  · rcases hk with rfl | rfl
    · exact fun _ => by kernel_rfl
    · exact fun _ => by kernel_rfl
theorem fo1 {b o f w l k : D} {lng : Option D} (hb : b ∈ bads) (hk : k ∈ works) : FO "<lambda>1" (.tup [.str "table", b]) (LL b o f w k lng) := by
  simp only [bads, works, List.mem_cons, List.not_mem_nil, or_false] at hb hk
  rcases hb with rfl | rfl | rfl | rfl | rfl | rfl | rfl | rfl | rfl | rfl | rfl | rfl
  · rcases hk with rfl | rfl
    · exact fun _ => by kernel_rfl
    · exact fun _ => by kernel_rfl
  · rcases hk with rfl | rfl
    · exact fun _ => by kernel_rfl
    · exact fun _ => by kernel_rfl
  · rcases hk with rfl | rfl
    · exact fun _ => by kernel_rfl
    · exact fun _ => by kernel_rfl
  · rcases hk with rfl | rfl
    · exact fun _ => by kernel_rfl
    · exact fun _ => by kernel_rfl
  · rcases hk with rfl | rfl
    · exact fun _ => by kernel_rfl
    · exact fun _ => by kernel_rfl
  · rcases hk with rfl | rfl
    · exact fun _ => by kernel_rfl
    · exact fun _ => by kernel_rfl
  · rcases hk with rfl | rfl
    · exact fun _ => by kernel_rfl
    · exact fun _ => by kernel_rfl
  · rcases hk with rfl | rfl
    · exact fun _ => by kernel_rfl
    · exact fun _ => by kernel_rfl
  · rcases hk with rfl | rfl
    · exact fun _ => by kernel_rfl
    · exact fun _ => by kernel_rfl
  · rcases hk with rfl | rfl
    · exact fun _ => by kernel_rfl
    · exact fun _ => by kernel_rfl
  · rcases hk with rfl | rfl
    · exact fun _ => by kernel_rfl
    · exact fun _ => by kernel_rfl
  · rcases hk with rfl | rfl
    · exact fun _ => by kernel_rfl
    · exact fun _ => by kernel_rfl
theorem fo2 {b o f w l k : D} {lng : Option D} (hw : w ∈ widers) (hk : k ∈ works) : FO "<lambda>2" (.tup [.str "unlike", .str "size"]) (LL b o f w k lng) := by
  simp only [widers, works, List.mem_cons, List.not_mem_nil, or_false] at hw hk
  rcases hw with rfl | rfl | rfl | rfl
  · rcases hk with rfl | rfl
    · exact fun _ => by kernel_rfl
    · exact fun _ => by kernel_rfl
  · rcases hk with rfl | rfl
    · exact fun _ => by kernel_rfl
    · exact fun _ => by kernel_rfl
  · rcases hk with rfl | rfl
    · exact fun _ => by kernel_rfl
    · exact fun _ => by kernel_rfl
  · rcases hk with rfl | rfl
    · exact fun _ => by kernel_rfl
    · exact fun _ => by kernel_rfl
theorem fo3 {b o f w l k : D} {lng : Option D} (hb : b ∈ bads) : FO "<lambda>3" (.tup [.str "table", b]) (LL b o f w k lng) := by
  simp only [bads, List.mem_cons, List.not_mem_nil, or_false] at hb
  rcases hb with rfl | rfl | rfl | rfl | rfl | rfl | rfl | rfl | rfl | rfl | rfl | rfl
  · exact fun _ => by kernel_rfl
  · exact fun _ => by kernel_rfl
  · exact fun _ => by kernel_rfl
  · exact fun _ => by kernel_rfl
  · exact fun _ => by kernel_rfl
  · exact fun _ => by kernel_rfl
  · exact fun _ => by kernel_rfl
  · exact fun _ => by kernel_rfl
  · exact fun _ => by kernel_rfl
  · exact fun _ => by kernel_rfl
  · exact fun _ => by kernel_rfl
  · exact fun _ => by kernel_rfl
theorem fo4 {b o f w l k : D} {lng : Option D} (hb : b ∈ bads) : FO "<lambda>4" (.tup [.str "table", b]) (LL b o f w k lng) := by
  simp only [bads, List.mem_cons, List.not_mem_nil, or_false] at hb
  rcases hb with rfl | rfl | rfl | rfl | rfl | rfl | rfl | rfl | rfl | rfl | rfl | rfl
  · exact fun _ => by kernel_rfl
  · exact fun _ => by kernel_rfl
  · exact fun _ => by kernel_rfl
  · exact fun _ => by kernel_rfl
  · exact fun _ => by kernel_rfl
  · exact fun _ => by kernel_rfl
  · exact fun _ => by kernel_rfl
  · exact fun _ => by kernel_rfl
  · exact fun _ => by kernel_rfl
  · exact fun _ => by kernel_rfl
  · exact fun _ => by kernel_rfl
  · exact fun _ => by kernel_rfl
theorem fo5 {b o f w l k : D} {lng : Option D} (hl : l ∈ longs) : FO "<lambda>5" (.tup [.str "unlike", .str "size"]) (LL b o f w k (some l)) := by
  simp only [longs, List.mem_cons, List.not_mem_nil, or_false] at hl
  rcases hl with rfl | rfl | rfl
  · exact fun _ => by kernel_rfl
  · exact fun _ => by kernel_rfl
  · exact fun _ => by kernel_rfl
theorem fo6 {b o f w l k : D} {lng : Option D} (hb : b ∈ bads) : FO "<lambda>6" (.tup [.str "table", b]) (LL b o f w k lng) := by
  simp only [bads, List.mem_cons, List.not_mem_nil, or_false] at hb
  rcases hb with rfl | rfl | rfl | rfl | rfl | rfl | rfl | rfl | rfl | rfl | rfl | rfl
  · exact fun _ => by kernel_rfl
  · exact fun _ => by kernel_rfl
  · exact fun _ => by kernel_rfl
  · exact fun _ => by kernel_rfl
  · exact fun _ => by kernel_rfl
  · exact fun _ => by kernel_rfl
  · exact fun _ => by kernel_rfl
  · exact fun _ => by kernel_rfl
  · exact fun _ => by kernel_rfl
  · exact fun _ => by kernel_rfl
  · exact fun _ => by kernel_rfl
  · exact fun _ => by kernel_rfl
theorem fo7 {b o f w l k : D} {lng : Option D} (ho : o ∈ odds) : FO "<lambda>7" (.tup [.str "number", .str "by", o]) (LL b o f w k lng) := by
  simp only [odds, List.mem_cons, List.not_mem_nil, or_false] at ho
  rcases ho with rfl | rfl | rfl | rfl | rfl
  · exact fun _ => by kernel_rfl
  · exact fun _ => by kernel_rfl
  · exact fun _ => by kernel_rfl
  · exact fun _ => by kernel_rfl
  · exact fun _ => by kernel_rfl
theorem fo8 {b o f w l k : D} {lng : Option D} (hb : b ∈ bads) : FO "<lambda>8" (.tup [.str "table", b]) (LL b o f w k lng) := by
  simp only [bads, List.mem_cons, List.not_mem_nil, or_false] at hb
  rcases hb with rfl | rfl | rfl | rfl | rfl | rfl | rfl | rfl | rfl | rfl | rfl | rfl
  · exact fun _ => by kernel_rfl
  · exact fun _ => by kernel_rfl
  · exact fun _ => by kernel_rfl
  · exact fun _ => by kernel_rfl
  · exact fun _ => by kernel_rfl
  · exact fun _ => by kernel_rfl
  · exact fun _ => by kernel_rfl
  · exact fun _ => by kernel_rfl
  · exact fun _ => by kernel_rfl
  · exact fun _ => by kernel_rfl
  · exact fun _ => by kernel_rfl
  · exact fun _ => by kernel_rfl
theorem fo9 {b o f w l k : D} {lng : Option D} (hf : f ∈ fars) : FO "<lambda>9" (.tup [.str "number", .str "size", f]) (LL b o f w k lng) := by
  simp only [fars, List.mem_cons, List.not_mem_nil, or_false] at hf
  rcases hf with rfl | rfl | rfl | rfl | rfl
  · exact fun _ => by kernel_rfl
  · exact fun _ => by kernel_rfl
  · exact fun _ => by kernel_rfl
  · exact fun _ => by kernel_rfl
  · exact fun _ => by kernel_rfl
theorem fo10 {b o f w l k : D} {lng : Option D} (hb : b ∈ bads) : FO "<lambda>10" (.tup [.str "table", b]) (LL b o f w k lng) := by
  simp only [bads, List.mem_cons, List.not_mem_nil, or_false] at hb
  rcases hb with rfl | rfl | rfl | rfl | rfl | rfl | rfl | rfl | rfl | rfl | rfl | rfl
  · exact fun _ => by kernel_rfl
  · exact fun _ => by kernel_rfl
  · exact fun _ => by kernel_rfl
  · exact fun _ => by kernel_rfl
  · exact fun _ => by kernel_rfl
  · exact fun _ => by kernel_rfl
  · exact fun _ => by kernel_rfl
  · exact fun _ => by kernel_rfl
  · exact fun _ => by kernel_rfl
  · exact fun _ => by kernel_rfl
  · exact fun _ => by kernel_rfl
  · exact fun _ => by kernel_rfl
theorem fo11 {b o f w k : D} {lng : Option D} : FO "<lambda>11" (.tup [.str "unlike", .str "square"]) (LL b o f w k lng) := fun _ => by kernel_rfl
theorem fo12 {b o f w l k : D} {lng : Option D} (hf : f ∈ fars) : FO "<lambda>12" (.tup [.str "number", .str "many", f]) (LL b o f w k lng) := by
  simp only [fars, List.mem_cons, List.not_mem_nil, or_false] at hf
  rcases hf with rfl | rfl | rfl | rfl | rfl
  · exact fun _ => by kernel_rfl
  · exact fun _ => by kernel_rfl
  · exact fun _ => by kernel_rfl
  · exact fun _ => by kernel_rfl
  · exact fun _ => by kernel_rfl
theorem ro1 {b o f w l k : D} {lng : Option D} (hb : b ∈ bads) : RO (.tup [.str "table", b]) := by
  simp only [bads, List.mem_cons, List.not_mem_nil, or_false] at hb
  rcases hb with rfl | rfl | rfl | rfl | rfl | rfl | rfl | rfl | rfl | rfl | rfl | rfl
  · exact fun _ => by kernel_rfl
  · exact fun _ => by kernel_rfl
  · exact fun _ => by kernel_rfl
  · exact fun _ => by kernel_rfl
  · exact fun _ => by kernel_rfl
  · exact fun _ => by kernel_rfl
  · exact fun _ => by kernel_rfl
  · exact fun _ => by kernel_rfl
  · exact fun _ => by kernel_rfl
  · exact fun _ => by kernel_rfl
  · exact fun _ => by kernel_rfl
  · exact fun _ => by kernel_rfl
theorem ro2 : RO (.tup [.str "unlike", .str "size"]) := fun _ => by kernel_rfl
theorem ro3 : RO (.tup [.str "unlike", .str "square"]) := fun _ => by kernel_rfl
theorem ro4 {b o f w l k : D} {lng : Option D} (ho : o ∈ odds) : RO (.tup [.str "number", .str "by", o]) := by
  simp only [odds, List.mem_cons, List.not_mem_nil, or_false] at ho
  rcases ho with rfl | rfl | rfl | rfl | rfl
  · exact fun _ => by kernel_rfl
  · exact fun _ => by kernel_rfl
  · exact fun _ => by kernel_rfl
  · exact fun _ => by kernel_rfl
  · exact fun _ => by kernel_rfl
theorem ro5 {b o f w l k : D} {lng : Option D} (hf : f ∈ fars) : RO (.tup [.str "number", .str "size", f]) := by
  simp only [fars, List.mem_cons, List.not_mem_nil, or_false] at hf
  rcases hf with rfl | rfl | rfl | rfl | rfl
  · exact fun _ => by kernel_rfl
  · exact fun _ => by kernel_rfl
  · exact fun _ => by kernel_rfl
  · exact fun _ => by kernel_rfl
  · exact fun _ => by kernel_rfl
theorem ro6 {b o f w l k : D} {lng : Option D} (hf : f ∈ fars) : RO (.tup [.str "number", .str "many", f]) := by
  simp only [fars, List.mem_cons, List.not_mem_nil, or_false] at hf
  rcases hf with rfl | rfl | rfl | rfl | rfl
  · exact fun _ => by kernel_rfl
  · exact fun _ => by kernel_rfl
  · exact fun _ => by kernel_rfl
  · exact fun _ => by kernel_rfl
  · exact fun _ => by kernel_rfl
end K12
namespace K12
open PySem PySem.Spec L2 Rf
theorem all_true2 {α : Type} {S : Sto} {xs : List α} : biD S .all [.lst (xs.map fun _ => .bl true)] = some (.val (.bl true)) := by
  have e : allBl (xs.map fun _ => .bl true) = some (List.replicate xs.length true) := by
    induction xs with
    | nil => rfl
    | cons x xs ih =>
      rw [List.map_cons, List.length_cons, List.replicate_succ]
      show (allBl (xs.map fun _ => .bl true)).map (true :: ·) = _
      rw [ih]
      rfl
  show (allBl _).map _ = _
  rw [e]
  simp [List.all_replicate]
/-- tries that all end as they must -/
theorem due_ok {L : List (Option D)} {S : Sto} {xs : List (Str × D)} (hl : xs.length ≤ 1000) (h : ∀ p ∈ xs, FO p.1 p.2 L ∧ RO p.2) : callN PP 12 "_law_tables_due" [.lst (xs.map fun p => .tup [.lam p.1, p.2])] L S = some (.ok (.val (.bl true)), S) := by
  refine call_rt (k := 11) (df := df__law_tables_due) rfl rfl ?_
  simp only [df__law_tables_due, show PP.af = 60 from rfl, ↓Z, Vl, VC, ↓ZL, ↓ZC, ↓reduceIte, Nat.reduceAdd, Nat.reduceSub, q_i0, q_i1, zipR, z_kok, z_ret, eq_self, decide_true, decide_false, Bool.not_true, Bool.not_false, len_r, List.length_range, List.length_map, z_putnm, z_Ts_nil, z_Ts_cons, Int.toNat_natCast, range_map]
  rw [z_runD (lcB_enc (fun p : Str × D => .tup [.lam p.1, p.2]) (fun _ => .bl true) ?_ ?_ ?_ ?_ ?_)]
  rotate_left
  · exact le_line hl
  · rfl
  · rfl
  · rfl
  · intro p hp
    obtain ⟨a, b⟩ := h p hp
    simp only [↓Z, Vl, VC, ↓ZL, ↓ZC, ↓reduceIte, Nat.reduceAdd, Nat.reduceSub, q_i0, q_i1, zipR, z_kok, z_ret, eq_self, decide_true, decide_false, Bool.not_true, Bool.not_false, len_r, List.length_range, List.length_map, z_putnm, z_Ts_nil, z_Ts_cons, Int.toNat_natCast, range_map, ↓z_callSD (a _), b _]
  simp only [↓Z, Vl, VC, ↓ZL, ↓ZC, ↓reduceIte, Nat.reduceAdd, Nat.reduceSub, q_i0, q_i1, zipR, z_kok, z_ret, eq_self, decide_true, decide_false, Bool.not_true, Bool.not_false, len_r, List.length_range, List.length_map, z_putnm, z_Ts_nil, z_Ts_cons, Int.toNat_natCast, range_map, all_true2]
theorem z_callCD {β : Type} {c : Str → List D → List (Option D) → Sto → Option (Except Exn Rf.R × Sto)} {cs : List Nat} {g : Str} {ds : List D} {x : Rf.R} {S S2 : Sto} {L L2 : List (Option D)} {env : List Bd} {f : D → Ev β} (hL : capL cs env = L2) (h : c g ds L2 S = some (.ok x, S2)) : Ev.bD (callC c cs g ds) f ⟨env, S, L⟩ = f x.d ⟨env, S2, L⟩ := by
  subst hL
  unfold Ev.bD Ev.bind callC
  simp only [h]
theorem z_callC {β : Type} {c : Str → List D → List (Option D) → Sto → Option (Except Exn Rf.R × Sto)} {cs : List Nat} {g : Str} {ds : List D} {x : Rf.R} {S S2 : Sto} {L L2 : List (Option D)} {env : List Bd} {f : Rf.R → Ev β} (hL : capL cs env = L2) (h : c g ds L2 S = some (.ok x, S2)) : Ev.bind (callC c cs g ds) f ⟨env, S, L⟩ = f x ⟨env, S2, L⟩ := by
  subst hL
  unfold Ev.bind callC
  simp only [h]
theorem bad_ok {p : Pen} (h : p.Ok) (hc : p.ct < 2 ^ 39) : ∃ (x : D) (q : Pen), callN PP 12 "_law_bad_table" [.cel 0] [] [p.c] = some (.ok (.val x), [q.c]) ∧ q.Ok ∧ q.ct = p.ct + 1 ∧ x ∈ bads := by
  obtain ⟨x, q, e, o, n, hx⟩ := pick_lst (P := PP) (k := 9) (p := p) (xs := bads) [] [] hp h (by omega) (by simp) (by decide)
  refine ⟨x, q, call_rt (k := 11) (df := df__law_bad_table) rfl rfl ?_, o, n, hx⟩
  have b1 := b_tmul (a := [.tup [.int 1]]) (k := 13) ⟨by simp, by decide, by decide, by decide⟩
  have b2 := b_tmul (a := [.int 0]) (k := 13) ⟨by simp, by decide, by decide, by decide⟩
  simp only [Nat.reduceAdd] at e
  simp only [df__law_bad_table, show PP.af = 60 from rfl, ↓Z, Vl, VC, ↓ZL, ↓ZC, ↓reduceIte, Nat.reduceAdd, Nat.reduceSub, q_i0, q_i1, zipR, z_kok, z_ret, eq_self, decide_true, decide_false, Bool.not_true, Bool.not_false, len_r, List.length_range, List.length_map, z_putnm, z_Ts_nil, z_Ts_cons, Int.toNat_natCast, range_map, b1, b2, ↓z_callS e]
theorem laps_ok {sc : Bd} : ∀ (ds : List D) (p : Pen) (e2 e3 e4 e5 e6 e7 e8 e9 e10 e11 e12 e13 e14 e15 : Bd), p.Ok → p.ct + 10000 * ds.length < 2 ^ 30 → Nl e2 → Nl e3 → Nl e4 → Nl e5 → Nl e6 → Nl e7 → Nl e8 → Nl e9 → Nl e10 → Nl e11 → Nl e12 → Nl e13 → Nl e14 → Nl e15 →
    ∃ (q : Pen) (f2 f3 f4 f5 f6 f7 f8 f9 f10 f11 f12 f13 f14 f15 : Bd), q.Ok ∧ q.ct ≤ p.ct + 10000 * ds.length ∧ (Nl f2 ∧ Nl f3 ∧ Nl f4 ∧ Nl f5 ∧ Nl f6 ∧ Nl f7 ∧ Nl f8 ∧ Nl f9 ∧ Nl f10 ∧ Nl f11 ∧ Nl f12 ∧ Nl f13 ∧ Nl f14 ∧ Nl f15) ∧
      forL [2] true (sL (ev PP (callN PP 12) 59) lapB) ds ⟨[sc, .val (.cel 0), e2, e3, e4, e5, e6, e7, e8, e9, e10, e11, e12, e13, e14, e15, .un, .un, .un, .un, .un, .un, .un, .un, .un, .un, .un], [p.c], []⟩ = some (.ok .nx, ⟨[sc, .val (.cel 0), f2, f3, f4, f5, f6, f7, f8, f9, f10, f11, f12, f13, f14, f15, .un, .un, .un, .un, .un, .un, .un, .un, .un, .un, .un], [q.c], []⟩)
  | [], p, e2, e3, e4, e5, e6, e7, e8, e9, e10, e11, e12, e13, e14, e15, h, _, h2, h3, h4, h5, h6, h7, h8, h9, h10, h11, h12, h13, h14, h15 => ⟨p, e2, e3, e4, e5, e6, e7, e8, e9, e10, e11, e12, e13, e14, e15, h, Nat.le_refl _, ⟨h2, h3, h4, h5, h6, h7, h8, h9, h10, h11, h12, h13, h14, h15⟩, rfl⟩
  | d :: ds, p, e2, e3, e4, e5, e6, e7, e8, e9, e10, e11, e12, e13, e14, e15, h, hc, h2, h3, h4, h5, h6, h7, h8, h9, h10, h11, h12, h13, h14, h15 => by
    simp only [List.length_cons] at hc ⊢
    obtain ⟨q, f3, f4, f5, f6, f7, f8, f9, f10, f11, f12, f13, f14, f15, o, n, g3, g4, g5, g6, g7, g8, g9, g10, g11, g12, g13, g14, g15, e⟩ := lap_ok (sc := sc) (dk := d) h (by omega) h2 h3 h4 h5 h6 h7 h8 h9 h10 h11 h12 h13 h14 h15
    obtain ⟨q2, k2, k3, k4, k5, k6, k7, k8, k9, k10, k11, k12, k13, k14, k15, o2, n2, hh, r⟩ := laps_ok (sc := sc) ds q (.val d) f3 f4 f5 f6 f7 f8 f9 f10 f11 f12 f13 f14 f15 o (by omega) .v g3 g4 g5 g6 g7 g8 g9 g10 g11 g12 g13 g14 g15
    refine ⟨q2, k2, k3, k4, k5, k6, k7, k8, k9, k10, k11, k12, k13, k14, k15, o2, by omega, hh, ?_⟩
    rw [← z_end (m := forL _ _ _ _), z_F_cons]
    have e : Ev.bind (putT [2] true d) (fun _ => sL (ev PP (callN PP 12) 59) lapB) ⟨[sc, .val (.cel 0), e2, e3, e4, e5, e6, e7, e8, e9, e10, e11, e12, e13, e14, e15, .un, .un, .un, .un, .un, .un, .un, .un, .un, .un, .un], [p.c], []⟩ = _ := e
    unfold Ev.bind at e ⊢
    generalize putT [2] true d ⟨[sc, .val (.cel 0), e2, e3, e4, e5, e6, e7, e8, e9, e10, e11, e12, e13, e14, e15, .un, .un, .un, .un, .un, .un, .un, .un, .un, .un, .un], [p.c], []⟩ = z at e ⊢
    cases z with
    | none => cases e
    | some w =>
      obtain ⟨x, s3⟩ := w
      cases x with
      | error x => cases e
      | ok x =>
        simp only at e ⊢
        rw [e]
        simp only
        rw [r]
        rfl
theorem fin_ex {o : Option (Except Exn Fl × Sx)} {x : Except Exn Fl} {S : Sto} (h : fin o = some (x, S)) : ∃ s, o = some (x, s) := by
  cases o with
  | none => cases h
  | some p =>
    obtain ⟨y, s⟩ := p
    cases h
    exact ⟨s, rfl⟩
set_option maxHeartbeats 8000000 in
theorem hlaw : ∀ ns : List Int, ns.length ≤ 63 → (∀ z ∈ ns, Builtin.Int.intBits z ≤ 1048576) → ∃ s', Rf.sL (Rf.ev PP (Rf.callN PP 12) PP.af) js_law ⟨.val (.scr (ns.map .int)) :: List.replicate (N_law.length - 1) .un, [], []⟩ = some (.ok (.rt (.val (.bl true))), s') := by
  intro ns _ hns
  obtain ⟨p, c0, o0, n0⟩ := pen_ok (P := PP) (k := 11) (L := []) rfl rfl hns
  obtain ⟨q, f2, f3, f4, f5, f6, f7, f8, f9, f10, f11, f12, f13, f14, f15, o1, n1, _, r⟩ := laps_ok (sc := .val (.scr (ns.map .int))) (rangeD 0 3) p .un .un .un .un .un .un .un .un .un .un .un .un .un .un o0 (by rw [range_len]; omega) .u .u .u .u .u .u .u .u .u .u .u .u .u .u
  rw [range_len] at n1
  obtain ⟨bad, p1, c1, o2, n2, hb⟩ := bad_ok o1 (by omega)
  obtain ⟨odd, p2, c2, o3, n3, ho⟩ := pick_lst (P := PP) (k := 10) (p := p1) (xs := odds) [] [] hp o2 (by omega) (by simp) (by decide)
  obtain ⟨far, p3, c3, o4, n4, hfar⟩ := pick_lst (P := PP) (k := 10) (p := p2) (xs := fars) [] [] hp o3 (by omega) (by simp) (by decide)
  obtain ⟨wider, p4, c4, o5, n5, hw⟩ := pick_lst (P := PP) (k := 10) (p := p3) (xs := widers) [] [] hp o4 (by omega) (by simp) (by decide)
  obtain ⟨lng, p5, c5, o6, n6, hl⟩ := pick_lst (P := PP) (k := 10) (p := p4) (xs := longs) [] [] hp o5 (by omega) (by simp) (by decide)
  simp only [Nat.reduceAdd] at c0 c2 c3 c4 c5
  have D1 : ∀ w ∈ works, ∀ S, callN PP 12 "_law_tables_due" [.lst (List.map (fun p : Str × D => .tup [.lam p.1, p.2]) [(("<lambda>0" : Str), (.tup [.str "table", bad] : D)), ("<lambda>1", .tup [.str "table", bad]), ("<lambda>2", .tup [.str "unlike", .str "size"])])] (LL bad odd far wider w none) S = some (.ok (.val (.bl true)), S) := fun w hw2 S => due_ok (Nat.le_of_ble_eq_true rfl) (by
    intro p hp2
    simp only [List.mem_cons, List.not_mem_nil, or_false] at hp2
    rcases hp2 with rfl | rfl | rfl
    · exact ⟨fo0 (l := .non) hb hw2, ro1 (o := .non) (f := .non) (w := .non) (l := .non) (k := .non) (lng := none) hb⟩
    · exact ⟨fo1 (l := .non) hb hw2, ro1 (o := .non) (f := .non) (w := .non) (l := .non) (k := .non) (lng := none) hb⟩
    · exact ⟨fo2 (l := .non) hw hw2, ro2⟩)
  have D2 : ∀ S, callN PP 12 "_law_tables_due" [.lst (List.map (fun p : Str × D => .tup [.lam p.1, p.2]) [(("<lambda>3" : Str), (.tup [.str "table", bad] : D)), ("<lambda>4", .tup [.str "table", bad]), ("<lambda>5", .tup [.str "unlike", .str "size"]), ("<lambda>6", .tup [.str "table", bad]), ("<lambda>7", .tup [.str "number", .str "by", odd]), ("<lambda>8", .tup [.str "table", bad]), ("<lambda>9", .tup [.str "number", .str "size", far]), ("<lambda>10", .tup [.str "table", bad]), ("<lambda>11", .tup [.str "unlike", .str "square"]), ("<lambda>12", .tup [.str "number", .str "many", far])])] (LL bad odd far wider (.fn "table_less") (some lng)) S = some (.ok (.val (.bl true)), S) := fun S => due_ok (Nat.le_of_ble_eq_true rfl) (by
    have rb := ro1 (o := .non) (f := .non) (w := .non) (l := .non) (k := .non) (lng := none) hb
    intro p hp2
    simp only [List.mem_cons, List.not_mem_nil, or_false] at hp2
    rcases hp2 with rfl | rfl | rfl | rfl | rfl | rfl | rfl | rfl | rfl | rfl
    · exact ⟨fo3 (l := .non) hb, rb⟩
    · exact ⟨fo4 (l := .non) hb, rb⟩
    · exact ⟨fo5 (lng := none) hl, ro2⟩
    · exact ⟨fo6 (l := .non) hb, rb⟩
    · exact ⟨fo7 (l := .non) ho, ro4 (b := .non) (f := .non) (w := .non) (l := .non) (k := .non) (lng := none) ho⟩
    · exact ⟨fo8 (l := .non) hb, rb⟩
    · exact ⟨fo9 (l := .non) hfar, ro5 (b := .non) (o := .non) (w := .non) (l := .non) (k := .non) (lng := none) hfar⟩
    · exact ⟨fo10 (l := .non) hb, rb⟩
    · exact ⟨fo11, ro3⟩
    · exact ⟨fo12 (l := .non) hfar, ro6 (b := .non) (o := .non) (w := .non) (l := .non) (k := .non) (lng := none) hfar⟩)
  simp only [m_cons, m_nil] at D1 D2
  have s3 : small62 3 = true := rfl
  have t3 : (3 : Int).toNat = 3 := rfl
  have b3 := b_tmul (a := [.tup [.int 1, .int 2]]) (k := 3) ⟨by simp, by decide, by decide, by decide⟩
  have l1 : (1 < line) = True := eq_true (Nat.le_of_ble_eq_true rfl)
  have l2 : (2 < line) = True := eq_true (Nat.le_of_ble_eq_true rfl)
  have l3 : (3 < line) = True := eq_true (Nat.le_of_ble_eq_true rfl)
  have l4 : (4 < line) = True := eq_true (Nat.le_of_ble_eq_true rfl)
  have l5 : (5 < line) = True := eq_true (Nat.le_of_ble_eq_true rfl)
  have l6 : (6 < line) = True := eq_true (Nat.le_of_ble_eq_true rfl)
  have l7 : (7 < line) = True := eq_true (Nat.le_of_ble_eq_true rfl)
  have l8 : (8 < line) = True := eq_true (Nat.le_of_ble_eq_true rfl)
  have l9 : (9 < line) = True := eq_true (Nat.le_of_ble_eq_true rfl)
  have l10 : (10 < line) = True := eq_true (Nat.le_of_ble_eq_true rfl)
  have rN : List.replicate (N_law.length - 1) Bd.un = [.un, .un, .un, .un, .un, .un, .un, .un, .un, .un, .un, .un, .un, .un, .un, .un, .un, .un, .un, .un, .un, .un, .un, .un, .un, .un] := rfl
  refine fin_ex (S := [p5.c]) ?_
  rw [← z_end (m := sL _ js_law)]
  simp only [js_law, rN, show PP.af = 60 from rfl, ↓Z, Vl, ↓reduceIte, Nat.reduceAdd, Nat.reduceSub, ↓z_callS c0, s3, t3, ↓z_lend0]
  rw [z_run r]
  simp only [↓Z, Vl, VC, ↓ZL, ↓ZC, ↓reduceIte, Nat.reduceAdd, Nat.reduceSub, q_i0, q_i1, zipR, z_kok, z_ret, eq_self, decide_true, decide_false, Bool.not_true, Bool.not_false, len_r, List.length_range, List.length_map, z_putnm, z_Ts_nil, z_Ts_cons, Int.toNat_natCast, range_map, ↓z_callSD c1, ↓z_callSD c2, ↓z_callSD c3, ↓z_callSD c4, l1, l2, l3, l4, l5, l6, l7, l8, l9, l10]
  rw [z_callCD ?e1 (D1 (.fn "table_sum") (by simp) _)]
  simp only [↓Z, Vl, VC, ↓ZL, ↓ZC, ↓reduceIte, Nat.reduceAdd, Nat.reduceSub, q_i0, q_i1, zipR, z_kok, z_ret, eq_self, decide_true, decide_false, Bool.not_true, Bool.not_false, len_r, List.length_range, List.length_map, z_putnm, z_Ts_nil, z_Ts_cons, Int.toNat_natCast, range_map, l1, l2, l3, l4, l5, l6, l7, l8, l9, l10]
  rw [z_callCD ?e2 (D1 (.fn "table_less") (by simp) _)]
  simp only [↓Z, Vl, VC, ↓ZL, ↓ZC, ↓reduceIte, Nat.reduceAdd, Nat.reduceSub, q_i0, q_i1, zipR, z_kok, z_ret, eq_self, decide_true, decide_false, Bool.not_true, Bool.not_false, len_r, List.length_range, List.length_map, z_putnm, z_Ts_nil, z_Ts_cons, Int.toNat_natCast, range_map, l1, l2, l3, l4, l5, l6, l7, l8, l9, l10, b3, ↓z_callS c5]
  rw [z_callC ?e3 (D2 _)]
  simp only [↓Z, Vl, VC, ↓ZL, ↓ZC, ↓reduceIte, Nat.reduceAdd, Nat.reduceSub, q_i0, q_i1, zipR, z_kok, z_ret, eq_self, decide_true, decide_false, Bool.not_true, Bool.not_false, len_r, List.length_range, List.length_map, z_putnm, z_Ts_nil, z_Ts_cons, Int.toNat_natCast, range_map, l1, l2, l3, l4, l5, l6, l7, l8, l9, l10]
  case e1 => rfl
  case e2 => rfl
  case e3 => rfl
end K12
open PySem PySem.W PySem.Calls PyProof.Rows
set_option maxHeartbeats 8000000 in
theorem PySem.Challenge.cw_steerpapers_k12_tables_added_and_multipl_holds : PySem.Challenge.rw_steerpapers_k12_tables_added_and_multipl.Holds := by
  w_on; o_law
  refine HandSHeadRun.head_imp (r := K12.R) (q := K12.qv) (H := K12.hk) (ob := K12.ob) (M := 6000) (loose := K12.loose) (d := HandSHeadRun.topDef K12.R.prog 75) (kwd := []) K12.ob_eq K12.run (by kernel_rfl) (by kernel_rfl) (by kernel_rfl) (by rfl) (by first | assumption | decide +kernel) (by decide +kernel) ⟨rfl, rfl, rfl, rfl, rfl, by decide +kernel⟩ ?hw ?hc
  case hw => w_witness2
  case hc =>
    refine Rf.walk_g (l := PySem.Challenge.rw_steerpapers_k12_tables_added_and_multipl) (n := 63) (k := 12) (params := L2.defArgs K12.st_law) (body := L2.defBody K12.st_law) rfl (by decide) (by kernel_rfl) ⟨rfl, by decide, by decide⟩ (by kernel_rfl) K12.lawS (fun _ _ _ _ _ _ us hl => match us, hl with | [_], _ => rfl) (lms := K12.lms) (caps := K12.caps) (by decide +kernel) ?F K12.hlaw
    intro w mg fa h Y G hmg
    obtain ⟨K, KX, c⟩ := Y
    exact K12.told_ KX G hmg c
