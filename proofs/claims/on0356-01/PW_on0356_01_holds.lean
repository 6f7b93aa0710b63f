import PyProof.Rows.All
import Wide.All
import OpenK.AllK
import Wide.FinOn
import PySem.Challenge.RW_on0356_01
set_option Elab.async false

set_option maxRecDepth 100000
namespace Mine
open PySem PySem.W PyProof.Rows PySem.Calls

/-- plain data -/
inductive D where
  | none
  | bool (b : Bool)
  | int (i : Int)
  | tup (ds : List D)
  | list (ds : List D)
  | map (g : Int → Option Int) (n : Nat)
  | keys (p : Int → Bool)
  | piece (first behind : Int) (levels : List D)
  | deck

structure Cx where
  prog : Program
  w : World
  H0 : Heap
  S0 : Shared
  mg : Str → Option Value
  mb : Str → Option Value
  K : Frag
  C : Addr
  dk : Addr
  dc : Addr
  cells : List Int
  KX : K.In H0
  g : H0.Ns mainGlobals mg
  b : H0.Ns builtinsNs mb
  nolimit : H0.NoLimit
  builtins : ∀ x : Str, x ≠ "__name__" → mb x = bootBuiltins x
  dlow : H0.get? dk = none
  clen : cells.length ≤ 60
  miss : ∀ x ∈ (["len", "range", "enumerate", "all", "min", "max", "int", "list", "dict"] : List Str), mg x = none

noncomputable def MapVal : Option Value → Option Int → Prop
  | some (.int i _), some j => i = j
  | none, none => True
  | _, _ => False

mutual
inductive Is (c : Cx) (N : Addr → Prop) (h : Heap) : Value → D → Prop
  | none : Is c N h .none .none
  | bool (b : Bool) : Is c N h (.bool b) (.bool b)
  | int (i : Int) (t : Tok) : Is c N h (.int i t) (.int i)
  | tup {a : Addr} {vs : List Value} {ds : List D} : IsTup h a vs.toArray → ¬ N a → IsAll c N h vs ds → Is c N h (.ref a) (.tup ds)
  | list {a : Addr} {vs : List Value} {ds : List D} : h.IsList a vs.toArray → ¬ N a → IsAll c N h vs ds → Is c N h (.ref a) (.list ds)
  | map {a : Addr} {f : Int → Option Value} {g : Int → Option Int} {n : Nat} : h.IntMap a f → h.DictLe a n → ¬ N a → (∀ k, MapVal (f k) (g k)) → Is c N h (.ref a) (.map g n)
  | keys {a : Addr} {f : Int → Option Value} {p : Int → Bool} : h.IntMap a f → ¬ N a → (∀ k, (f k).isSome = p k) → Is c N h (.ref a) (.keys p)
  | piece {x dx : Addr} {es : List DictEntry} {n : Nat} {i j : Int} {ti tj : Tok} {vl : Value} {ls : List D} : h.get? x = some (instObj c.C dx) → h.get? dx = some (dictOf es n) → ¬ N x → ¬ N dx →
      getL "first" es = some (some (.int i ti)) → getL "behind" es = some (some (.int j tj)) → getL "levels" es = some (some vl) → getL "is_idle" es = some Option.none →
      Is c N h vl (.list ls) → Is c N h (.ref x) (.piece i j ls)
  | deck : Is c N h (.ref c.dk) .deck
inductive IsAll (c : Cx) (N : Addr → Prop) (h : Heap) : List Value → List D → Prop
  | nil : IsAll c N h [] []
  | cons {v : Value} {vs : List Value} {d : D} {ds : List D} : Is c N h v d → IsAll c N h vs ds → IsAll c N h (v :: vs) (d :: ds)
end

theorem Is.handed {c N h v d} (x : Is c N h v d) : handedIn v = true := by cases x <;> rfl
theorem get_of {h h' : Heap} {a : Addr} {N N' : Addr → Prop} (hk : ∀ a o, h.get? a = some o → ¬ N a → h'.get? a = some o ∧ ¬ N' a) {o : Obj} (e : h.get? a = some o) (n : ¬ N a) : h'.get? a = some o ∧ ¬ N' a := hk a o e n

mutual
theorem Is.ext {c : Cx} {N N' : Addr → Prop} {h h' : Heap} (hk : ∀ a o, h.get? a = some o → ¬ N a → h'.get? a = some o ∧ ¬ N' a) : ∀ {v : Value} {d : D}, Is c N h v d → Is c N' h' v d
  | _, _, .none => .none
  | _, _, .bool b => .bool b
  | _, _, .int i t => .int i t
  | _, _, .tup ht n r => by
    obtain ⟨o, ho, q⟩ := ht
    exact .tup ⟨o, (hk _ o ho n).1, q⟩ (hk _ o ho n).2 (IsAll.ext hk r)
  | _, _, .list ht n r => by
    obtain ⟨o, ho, q⟩ := ht
    exact .list ⟨o, (hk _ o ho n).1, q⟩ (hk _ o ho n).2 (IsAll.ext hk r)
  | _, _, .map hm hl n q => by
    obtain ⟨o, es, ep, ho, r⟩ := hm
    exact .map ⟨o, es, ep, (hk _ o ho n).1, r⟩ (hl.of_same ho (hk _ o ho n).1) (hk _ o ho n).2 q
  | _, _, .keys hm n q => by
    obtain ⟨o, es, ep, ho, r⟩ := hm
    exact .keys ⟨o, es, ep, (hk _ o ho n).1, r⟩ (hk _ o ho n).2 q
  | _, _, .piece h1 h2 n1 n2 a b l i r => .piece (hk _ _ h1 n1).1 (hk _ _ h2 n2).1 (hk _ _ h1 n1).2 (hk _ _ h2 n2).2 a b l i (Is.ext hk r)
  | _, _, .deck => .deck
theorem IsAll.ext {c : Cx} {N N' : Addr → Prop} {h h' : Heap} (hk : ∀ a o, h.get? a = some o → ¬ N a → h'.get? a = some o ∧ ¬ N' a) : ∀ {vs : List Value} {ds : List D}, IsAll c N h vs ds → IsAll c N' h' vs ds
  | _, _, .nil => .nil
  | _, _, .cons x r => .cons (Is.ext hk x) (IsAll.ext hk r)
end

theorem IsAll.length {c N h vs ds} (x : IsAll c N h vs ds) : vs.length = ds.length := by
  induction vs generalizing ds with
  | nil => cases x; rfl
  | cons v vs ih => cases x with | cons _ r => simp [ih r]
theorem IsAll.append {c N h vs ws ds es} (x : IsAll c N h vs ds) (y : IsAll c N h ws es) : IsAll c N h (vs ++ ws) (ds ++ es) := by
  induction vs generalizing ds with
  | nil => cases x; exact y
  | cons v vs ih => cases x with | cons a r => exact .cons a (ih r)
theorem IsAll.get {c N h vs ds} (x : IsAll c N h vs ds) {k : Nat} (hk : k < ds.length) : ∃ v, vs[k]? = some v ∧ Is c N h v (ds[k]'hk) := by
  induction vs generalizing ds k with
  | nil => cases x; exact absurd hk (Nat.not_lt_zero _)
  | cons v vs ih =>
    cases x with
    | cons a r =>
      cases k with
      | zero => exact ⟨v, rfl, a⟩
      | succ k => simpa using ih r (Nat.lt_of_succ_lt_succ hk)
theorem IsAll.get' {c N h vs ds} (x : IsAll c N h vs ds) {k : Nat} {v : Value} (hk : vs[k]? = some v) : ∃ d, ds[k]? = some d ∧ Is c N h v d := by
  induction vs generalizing ds k with
  | nil => simp at hk
  | cons u vs ih =>
    cases x with
    | cons a r =>
      cases k with
      | zero => simp at hk; subst hk; exact ⟨_, rfl, a⟩
      | succ k => simpa using ih r (by simpa using hk)
theorem IsAll.take {c N h vs ds} (x : IsAll c N h vs ds) (k : Nat) : IsAll c N h (vs.take k) (ds.take k) := by
  induction vs generalizing ds k with
  | nil => cases x; simp; exact .nil
  | cons u vs ih =>
    cases x with
    | cons a r =>
      cases k with
      | zero => simp; exact .nil
      | succ k => simp; exact .cons a (ih r k)
theorem IsAll.drop {c N h vs ds} (x : IsAll c N h vs ds) (k : Nat) : IsAll c N h (vs.drop k) (ds.drop k) := by
  induction vs generalizing ds k with
  | nil => cases x; simp; exact .nil
  | cons u vs ih =>
    cases x with
    | cons a r =>
      cases k with
      | zero => simp; exact .cons a r
      | succ k => simp; exact ih r k
theorem IsAll.reverse {c N h vs ds} (x : IsAll c N h vs ds) : IsAll c N h vs.reverse ds.reverse := by
  induction vs generalizing ds with
  | nil => cases x; exact .nil
  | cons u vs ih =>
    cases x with
    | cons a r =>
      simp
      exact (ih r).append (.cons a .nil)
theorem IsAll.set {c N h vs ds} (x : IsAll c N h vs ds) {v d} (y : Is c N h v d) (k : Nat) : IsAll c N h (vs.set k v) (ds.set k d) := by
  induction vs generalizing ds k with
  | nil => cases x; exact .nil
  | cons u vs ih =>
    cases x with
    | cons a r =>
      cases k with
      | zero => simp; exact .cons y r
      | succ k => simp; exact .cons a (ih r k)

/-- the deck: a list of the cells' list and a turn -/
noncomputable def DeckAt (c : Cx) (n : Nat) (h : Heap) : Prop :=
  ∃ (t : Int) (tk : Tok) (vs : List Value), 0 ≤ t ∧ t ≤ (n : Int) ∧ h.IsList c.dk #[.ref c.dc, .int t tk] ∧ h.IsList c.dc vs.toArray ∧ IntsAre vs c.cells ∧ c.dc ≠ c.dk

structure Fm where
  env : Env
  A : Around
  k : Nat
  names : List (Str × NameKind)
  own : List (Str × Addr)

structure St where
  vars : List (Option D)
  own : Option (Nat × D) := Option.none
  tb : Nat := 0
  plain : Bool := true

noncomputable def Room (k : Nat) (A : Around) : Prop := A.handled = none ∧ A.depth + 2 * k < 900 ∧ A.units + 8 * k + 400 < 9900

structure Mid (c : Cx) (n : Nat) (s : Shared) : Prop where
  base : ∀ a o, c.H0.get? a = some o → s.heap.get? a = some o
  glob : s = { c.S0 with heap := s.heap, toks := s.toks }
  deck : DeckAt c n s.heap

noncomputable def Mm (F : Fm) (st : St) (ow : Addr) (a : Addr) : Prop := a = F.env.locals ∨ (∃ x, (x, a) ∈ F.own) ∨ (st.own.isSome = true ∧ a = ow)

/-- name x of kind k holds v -/
noncomputable def Holds (c : Cx) (F : Fm) (st : St) (ow : Addr) (h : Heap) (m : Str → Option Value) (x : Str) (k : NameKind) (v : Value) : Prop :=
  (k = .local ∧ m x = some v) ∨
  ((k = .cell ∨ k = .free) ∧ ∃ cl, F.env.cells.lookup x = some cl ∧ h.IsCell cl (some v) ∧ ((k = .cell ∧ (x, cl) ∈ F.own) ∨ (¬ Mm F st ow cl ∧ cl ≠ c.dk)))

inductive OwnObj (c : Cx) (N : Addr → Prop) (h : Heap) (a : Addr) (pl : Bool) : D → Prop
  | list {vs ds} : h.IsList a vs.toArray → (pl = true → h.PlainList a vs.toArray) → IsAll c N h vs ds → OwnObj c N h a pl (.list ds)
  | map {f g n} : h.IntMap a f → h.DictLe a n → (∀ k, MapVal (f k) (g k)) → OwnObj c N h a pl (.map g n)

/-- the frame is well made -/
structure Wf (c : Cx) (F : Fm) : Prop where
  kind : F.env.scope.kind = .function
  names : F.env.scope.names = F.names
  glob : F.env.globals = mainGlobals
  bui : F.env.builtins = builtinsNs
  room : Room F.k F.A
  nodup : (F.names.map (·.1)).Nodup
  Llow : c.H0.get? F.env.locals = none
  Ldk : F.env.locals ≠ c.dk
  olow : ∀ x a, (x, a) ∈ F.own → c.H0.get? a = none ∧ a ≠ F.env.locals ∧ a ≠ c.dk
  ocell : ∀ x a, (x, a) ∈ F.own → F.env.cells.lookup x = some a
  oapart : ∀ x y a, (x, a) ∈ F.own → (y, a) ∈ F.own → x = y

structure Core (c : Cx) (F : Fm) (A P : Addr → Prop) (st : St) (s : Shared) (ow : Addr) (m : Str → Option Value) : Prop where
  wf : Wf c F
  mid : Mid c st.tb s
  ns : s.heap.Ns F.env.locals m
  cells : ∀ x a, F.env.cells.lookup x = some a → ∃ v, s.heap.IsCell a v
  Adk : A c.dk
  Adc : ¬ A c.dc
  Pdk : ¬ P c.dk
  Alt : ∀ a, A a → ∃ o, s.heap.get? a = some o
  Plt : ∀ a, P a → ∃ o, s.heap.get? a = some o
  PM : ∀ a, P a → ¬ Mm F st ow a
  var : ∀ (i : Nat) (d : D), st.vars[i]? = some (some d) → ∃ x k v, F.names[i]? = some (x, k) ∧ Holds c F st ow s.heap m x k v ∧ Is c (fun a => A a ∨ Mm F st ow a) s.heap v d
  ovar : ∀ (i : Nat) (d : D), st.own = some (i, d) → (∃ x k, F.names[i]? = some (x, k) ∧ Holds c F st ow s.heap m x k (.ref ow)) ∧ OwnObj c (fun a => A a ∨ Mm F st ow a) s.heap ow st.plain d ∧ ¬ A ow ∧
    ow ≠ F.env.locals ∧ (∀ x, (x, ow) ∉ F.own) ∧ c.H0.get? ow = none ∧ ow ≠ c.dc


noncomputable def Ext1 (c : Cx) (h h' : Heap) : Prop := ∀ a o, h.get? a = some o → a ≠ c.dk → h'.get? a = some o
theorem Ext1.refl {c h} : Ext1 c h h := fun _ _ e _ => e
theorem Ext1.trans {c h₁ h₂ h₃} (x : Ext1 c h₁ h₂) (y : Ext1 c h₂ h₃) : Ext1 c h₁ h₃ := fun a o e n => y a o (x a o e n) n
theorem Ext1.of_keep {c} {h h' : Heap} (k : ∀ a o, h.get? a = some o → h'.get? a = some o) : Ext1 c h h' := fun a o e _ => k a o e
theorem Ext1.push {c} {h : Heap} (o : Obj) : Ext1 c h (h.push o) := .of_keep fun _ _ e => Heap.get?_push_of_some o e

noncomputable def Av (F : Fm) (l : Bool) (A : Addr → Prop) (st : St) (ow : Addr) (a : Addr) : Prop := A a ∨ (l = true ∧ Mm F st ow a)

theorem IsList.ext1 {c} {h h' : Heap} {a items} (x : h.IsList a items) (k : Ext1 c h h') (n : a ≠ c.dk) : h'.IsList a items := let ⟨o, ho, r⟩ := x; ⟨o, k _ _ ho n, r⟩
theorem DeckAt.keep {c n} {h h' : Heap} (x : DeckAt c n h) (k : ∀ a o, h.get? a = some o → h'.get? a = some o) : DeckAt c n h' := by
  obtain ⟨t, tk, vs, h0, h1, ⟨o, ho, hr⟩, ⟨o2, ho2, hr2⟩, hi, hn⟩ := x
  exact ⟨t, tk, vs, h0, h1, ⟨o, k _ _ ho, hr⟩, ⟨o2, k _ _ ho2, hr2⟩, hi, hn⟩
theorem DeckAt.le {c n n'} {h : Heap} (x : DeckAt c n h) (k : n ≤ n') : DeckAt c n' h := by
  obtain ⟨t, tk, vs, h0, h1, r⟩ := x
  exact ⟨t, tk, vs, h0, by lia, r⟩
theorem Mid.le {c n n' s} (x : Mid c n s) (k : n ≤ n') : Mid c n' s := ⟨x.base, x.glob, x.deck.le k⟩
theorem Mid.keep {c n s} (x : Mid c n s) {h' : Heap} {tk : Nat} (k : ∀ a o, s.heap.get? a = some o → h'.get? a = some o) : Mid c n { s with heap := h', toks := tk } := by
  refine ⟨fun a o e => k a o (x.base a o e), ?_, x.deck.keep k⟩
  rw [x.glob]

theorem Is.ext1 {c : Cx} {N : Addr → Prop} {h h' : Heap} {v d} (x : Is c N h v d) (hk : Ext1 c h h') (hN : N c.dk) : Is c N h' v d :=
  x.ext fun a o e n => ⟨hk a o e fun q => n (q ▸ hN), n⟩
theorem IsAll.ext1 {c : Cx} {N : Addr → Prop} {h h' : Heap} {v d} (x : IsAll c N h v d) (hk : Ext1 c h h') (hN : N c.dk) : IsAll c N h' v d :=
  x.ext fun a o e n => ⟨hk a o e fun q => n (q ▸ hN), n⟩
theorem Is.mono {c : Cx} {N N' : Addr → Prop} {h : Heap} {v d} (x : Is c N h v d) (hN : ∀ a, N' a → N a) : Is c N' h v d := x.ext fun a _ e n => ⟨e, fun q => n (hN a q)⟩
theorem IsAll.mono {c : Cx} {N N' : Addr → Prop} {h : Heap} {v d} (x : IsAll c N h v d) (hN : ∀ a, N' a → N a) : IsAll c N' h v d := x.ext fun a _ e n => ⟨e, fun q => n (hN a q)⟩

theorem OwnObj.ext {c : Cx} {N N' : Addr → Prop} {h h' : Heap} {a d} {pl : Bool} (x : OwnObj c N h a pl d) (ha : ∀ o, h.get? a = some o → h'.get? a = some o) (hk : ∀ a o, h.get? a = some o → ¬ N a → h'.get? a = some o ∧ ¬ N' a) : OwnObj c N' h' a pl d := by
  cases x with
  | list hl hp r => obtain ⟨o, ho, q⟩ := hl; exact .list ⟨o, ha _ ho, q⟩ (fun e => let ⟨n, z⟩ := hp e; ⟨n, ha _ z⟩) (r.ext hk)
  | map hm hl q => obtain ⟨o, es, ep, ho, r⟩ := hm; exact .map ⟨o, es, ep, ha _ ho, r⟩ (hl.of_same ho (ha _ ho)) q

namespace Core
variable {c : Cx} {F : Fm} {A P : Addr → Prop} {st : St} {s : Shared} {ow : Addr} {m : Str → Option Value}
theorem ocells (x : Core c F A P st s ow m) : ∀ y a, (y, a) ∈ F.own → ∃ v, s.heap.IsCell a v := fun y a h => x.cells y a (x.wf.ocell y a h)
theorem Avdk (x : Core c F A P st s ow m) (l : Bool) : Av F l A st ow c.dk := .inl x.Adk

theorem step (x : Core c F A P st s ow m) {h' : Heap} {tk n : Nat} (k : Ext1 c s.heap h') (hd : DeckAt c n h') : Core c F A P { st with tb := n } { s with heap := h', toks := tk } ow m := by
  have kN : ∀ {N : Addr → Prop}, N c.dk → ∀ a o, s.heap.get? a = some o → ¬ N a → h'.get? a = some o ∧ ¬ N a := fun hN a o e n => ⟨k a o e fun q => n (q ▸ hN), n⟩
  have ex : ∀ a, (∃ o, s.heap.get? a = some o) → ∃ o, h'.get? a = some o := fun a ⟨o, e⟩ => by
    by_cases q : a = c.dk
    · subst q; obtain ⟨_, _, _, _, _, ⟨o, ho, _⟩, _⟩ := hd; exact ⟨o, ho⟩
    · exact ⟨o, k a o e q⟩
  refine ⟨x.wf, ⟨fun a o e => k a o (x.mid.base a o e) ?_, ?_, hd⟩, ?_, ?_, x.Adk, x.Adc, x.Pdk, fun a ha => ex a (x.Alt a ha), fun a ha => ex a (x.Plt a ha), x.PM, ?_, ?_⟩
  · exact fun q => by rw [q, c.dlow] at e; cases e
  · rw [x.mid.glob]
  · obtain ⟨o, es, ep, ho, r⟩ := x.ns
    exact ⟨o, es, ep, k _ _ ho x.wf.Ldk, r⟩
  · intro y a hy
    obtain ⟨v, o, ho, hv⟩ := x.cells y a hy
    refine ⟨v, o, k _ _ ho (fun q => ?_), hv⟩
    obtain ⟨_, _, _, _, _, ⟨o2, h3, _, n, h4⟩, _⟩ := x.mid.deck
    rw [q, h3] at ho; cases ho; rw [h4] at hv; cases hv
  · intro i d hi
    obtain ⟨y, kk, v, hn, hh, hv⟩ := x.var i d hi
    refine ⟨y, kk, v, hn, ?_, hv.ext1 k (.inl x.Adk)⟩
    rcases hh with hh | ⟨hkk, cl, hc, ⟨o, ho, hv'⟩, hr⟩
    · exact .inl hh
    · refine .inr ⟨hkk, cl, hc, ⟨o, k _ _ ho ?_, hv'⟩, hr⟩
      rcases hr with hr | hr
      · exact (x.wf.olow _ _ hr.2).2.2
      · exact hr.2
  · intro i d hi
    obtain ⟨⟨y, kk, hn, hh⟩, ho, h1, h2, h3, h4⟩ := x.ovar i d hi
    refine ⟨⟨y, kk, hn, ?_⟩, ho.ext (fun o e => k _ _ e fun q => h1 (q ▸ x.Adk)) (kN (.inl x.Adk)), h1, h2, h3, h4⟩
    rcases hh with hh | ⟨hkk, cl, hc, ⟨o, ho, hv'⟩, hr⟩
    · exact .inl hh
    · refine .inr ⟨hkk, cl, hc, ⟨o, k _ _ ho ?_, hv'⟩, hr⟩
      rcases hr with hr | hr
      · exact (x.wf.olow _ _ hr.2).2.2
      · exact hr.2

theorem keep (x : Core c F A P st s ow m) {h' : Heap} {tk : Nat} (k : ∀ a o, s.heap.get? a = some o → h'.get? a = some o) : Core c F A P st { s with heap := h', toks := tk } ow m :=
  x.step (.of_keep k) (x.mid.deck.keep k)
theorem tok (x : Core c F A P st s ow m) (tk : Nat) : Core c F A P st { s with toks := tk } ow m := x.keep (h' := s.heap) fun _ _ e => e
end Core

/-- an expression gives a datum of the post -/
noncomputable def Tr (c : Cx) (F : Fm) (l : Bool) (st : St) (t : Sem Value) (Post : D → St → Prop) : Prop :=
  ∀ (A P : Addr → Prop) (ow : Addr) (m : Str → Option Value) (s : Shared) (Q : Value → Shared → Prop) (E : Value → Shared → Prop), Core c F A P st s ow m →
    (∀ v d n s', Post d { st with tb := n } → Core c F A P { st with tb := n } s' ow m → Is c (Av F l A st ow) s'.heap v d → Ext1 c s.heap s'.heap → Q v s') → wpAny (model c.prog c.w) F.A t Q E s
noncomputable def Ev (c : Cx) (F : Fm) (l : Bool) (st : St) (e : Expr) (Post : D → St → Prop) : Prop := Tr c F l st (eval e F.env) Post

noncomputable def Tst (c : Cx) (F : Fm) (st : St) (e : Expr) (Post : Bool → St → Prop) : Prop :=
  ∀ (A P : Addr → Prop) (ow : Addr) (m : Str → Option Value) (s : Shared) (Q : Bool → Shared → Prop) (E : Value → Shared → Prop), Core c F A P st s ow m →
    (∀ b n s', Post b { st with tb := n } → Core c F A P { st with tb := n } s' ow m → Ext1 c s.heap s'.heap → Q b s') → wpAny (model c.prog c.w) F.A (isTrue e F.env (eval e F.env)) Q E s

noncomputable def EvL (c : Cx) (F : Fm) (l : Bool) (st : St) (es : List Expr) (Post : List D → St → Prop) : Prop :=
  ∀ (A P : Addr → Prop) (ow : Addr) (m : Str → Option Value) (s : Shared) (Q : List Value → Shared → Prop) (E : Value → Shared → Prop) (pos : Pos), Core c F A P st s ow m →
    (∀ vs ds n s', Post ds { st with tb := n } → Core c F A P { st with tb := n } s' ow m → IsAll c (Av F l A st ow) s'.heap vs ds → Ext1 c s.heap s'.heap → Q vs s') → wpAny (model c.prog c.w) F.A (spliced (backTo pos (starEach es F.env))) Q E s

noncomputable def Keep (P : Addr → Prop) (h h' : Heap) : Prop := ∀ a o, P a → h.get? a = some o → h'.get? a = some o
theorem Keep.trans {P h₁ h₂ h₃} (x : Keep P h₁ h₂) (y : Keep P h₂ h₃) : Keep P h₁ h₃ := fun a o p e => y a o p (x a o p e)

/-- statements: N of the state where they end in next, T of the datum they return -/
noncomputable def ExS (c : Cx) (F : Fm) (st : St) (t : Sem Flow) (N : St → Prop) (T : D → Nat → Prop) : Prop :=
  ∀ (A P : Addr → Prop) (ow : Addr) (m : Str → Option Value) (s : Shared) (Q : Flow → Shared → Prop) (E : Value → Shared → Prop), Core c F A P st s ow m →
    (∀ st' ow' m' s', N st' → Core c F A P st' s' ow' m' → Keep P s.heap s'.heap → Q .next s') →
    (∀ v d n s', T d n → Mid c n s' → Keep P s.heap s'.heap → Is c A s'.heap v d → Q (.ret v) s') → wpAny (model c.prog c.w) F.A t Q E s
noncomputable def Ex (c : Cx) (F : Fm) (st : St) (ss : List Stmt) (N : St → Prop) (T : D → Nat → Prop) : Prop := ExS c F st (execs ss F.env) N T
noncomputable def Ex1 (c : Cx) (F : Fm) (st : St) (t : Stmt) (N : St → Prop) (T : D → Nat → Prop) : Prop := ExS c F st (exec t F.env) N T

noncomputable def maxT : Nat := 100000
/-- a def: cost b (turns of the deck), depth k -/
noncomputable def Fn (c : Cx) (f : Addr) (k b : Nat) (args : List D) (T : D → Prop) : Prop :=
  ∀ (B : Around) (A : Addr → Prop) (n : Nat) (vs : List Value) (s : Shared) (Q : Value → Shared → Prop) (E : Value → Shared → Prop), Room k B → n + b ≤ maxT → Mid c n s → A c.dk → ¬ A c.dc → (∀ a, A a → ∃ o, s.heap.get? a = some o) → IsAll c A s.heap vs args →
    (∀ v d s', T d → Mid c (n + b) s' → Ext1 c s.heap s'.heap → Is c A s'.heap v d → Q v s') → wpAny (model c.prog c.w) B (call (.ref f) vs) Q E s

end Mine

set_option maxRecDepth 100000
namespace Mine
open PySem PySem.W PyProof.Rows PySem.Calls

section
variable {c : Cx} {F : Fm} {l : Bool} {st : St} {Post : D → St → Prop}

theorem Tr.bindEv {t : Sem Value} {Post' : D → St → Prop} (h : Tr c F l st t Post) (hp : ∀ d st', Post d st' → Post' d st') : Tr c F l st t Post' :=
  fun A P ow m s Q E x k => h A P ow m s Q E x fun v d n s' p => k v d n s' (hp _ _ p)

theorem Ev.weak {e : Expr} (h : Ev c F true st e Post) : Ev c F false st e Post :=
  fun A P ow m s Q E x k => h A P ow m s Q E x fun v d n s' p x' i e => k v d n s' p x' (i.mono fun a ha => ha.elim .inl fun q => absurd q.1 (by decide)) e

/-- closing: the state keeps its heap -/
theorem fin0 {A P : Addr → Prop} {ow : Addr} {m : Str → Option Value} {s : Shared} {Q : Value → Shared → Prop} (x : Core c F A P st s ow m) {v : Value} {d : D} (tk : Nat)
    (k : ∀ v d n s', Post d { st with tb := n } → Core c F A P { st with tb := n } s' ow m → Is c (Av F l A st ow) s'.heap v d → Ext1 c s.heap s'.heap → Q v s') (p : Post d st) (i : Is c (Av F l A st ow) s.heap v d) : Q v { s with toks := tk } :=
  k v d st.tb { s with toks := tk } p (x.tok tk) i Ext1.refl

theorem Ev.int {i : Int} {kk : Nat} {pos : Pos} (h : Post (.int i) st) : Ev c F l st (.Constant (.int i) kk pos) Post :=
  fun _ _ _ _ _ _ _ x k => wpAny_Constant_int (fin0 x _ k h (.int i _))
theorem Ev.none {kk : Nat} {pos : Pos} (h : Post .none st) : Ev c F l st (.Constant .none kk pos) Post :=
  fun _ _ _ _ s _ _ x k => wpAny_pure (fin0 x s.toks k h .none)
theorem Ev.bool {b : Bool} {kk : Nat} {pos : Pos} (h : Post (.bool b) st) : Ev c F l st (.Constant (.bool b) kk pos) Post :=
  fun _ _ _ _ s _ _ x k => wpAny_pure (fin0 x s.toks k h (.bool b))

/-- the datum of a name -/
noncomputable def look : List (Str × NameKind) → List (Option D) → Str → Option D
  | (y, _) :: ns, v :: vs, x => if y == x then v else look ns vs x
  | _, _, _ => Option.none
theorem look_idx : ∀ {ns : List (Str × NameKind)} {vs : List (Option D)} {x : Str} {d : D}, look ns vs x = some d → ∃ (i : Nat) (k : NameKind), ns[i]? = some (x, k) ∧ vs[i]? = some (some d)
  | (y, k) :: ns, v :: vs, x, d, h => by
    unfold look at h
    by_cases q : (y == x) = true
    · rw [if_pos q] at h
      exact ⟨0, k, by rw [beq_iff_eq.mp q]; rfl, by rw [h]; rfl⟩
    · rw [if_neg q] at h
      obtain ⟨i, k', a, b⟩ := look_idx h
      exact ⟨i + 1, k', a, b⟩
  | [], _, _, _, h => by simp [look] at h
  | _ :: _, [], _, _, h => by simp [look] at h

theorem lookup_of_idx : ∀ {ns : List (Str × NameKind)} {i : Nat} {x : Str} {k : NameKind}, (ns.map (·.1)).Nodup → ns[i]? = some (x, k) → ns.lookup x = some k
  | [], i, _, _, _, h => by simp at h
  | (y, k') :: ns, 0, x, k, hn, h => by simp at h; simp [h.1, h.2]
  | (y, k') :: ns, i + 1, x, k, hn, h => by
    simp only [List.map_cons, List.nodup_cons] at hn
    simp only [List.getElem?_cons_succ] at h
    have ih := lookup_of_idx hn.2 h
    rw [List.lookup_cons]
    have hne : (x == y) = false := by
      cases q : x == y with
      | false => rfl
      | true =>
        exfalso; apply hn.1
        have := List.mem_of_getElem? h
        rw [← beq_iff_eq.mp q]
        exact List.mem_map.mpr ⟨_, this, rfl⟩
    rw [hne]; exact ih

theorem Wf.kindOf (w : Wf c F) {i : Nat} {x : Str} {k : NameKind} (h : F.names[i]? = some (x, k)) : F.env.kindOf x = some k := by
  unfold Env.kindOf; rw [w.names]; exact lookup_of_idx w.nodup h

theorem load_holds {A P : Addr → Prop} {ow : Addr} {m : Str → Option Value} {s : Shared} {Q : Value → Shared → Prop} {E : Value → Shared → Prop} (x : Core c F A P st s ow m) {i : Nat} {y : Str} {k : NameKind} {v : Value}
    (hn : F.names[i]? = some (y, k)) (hh : Holds c F st ow s.heap m y k v) (h : Q v s) (hcd : (y == ("__classdict__" : Str)) = false) : wpAny (model c.prog c.w) F.A (loadName F.env y) Q E s := by
  have hk := x.wf.kindOf hn
  rcases hh with ⟨rfl, hm⟩ | ⟨hkk, cl, hc, hv, _⟩
  · exact wpAny_loadName_local x.wf.kind hk x.ns hm h
  · rcases hkk with rfl | rfl
    · exact wpAny_loadName_cell x.wf.kind hk hc hv h
    · exact wpAny_loadName_free x.wf.kind hk hc hv h hcd

theorem Ev.name {x : Str} {pos : Pos} {d : D} (hx : look F.names st.vars x = some d) (h : Post d st) (hd : (x == ("__debug__" : Str)) = false := by decide) (hcd : (x == ("__classdict__" : Str)) = false := by decide) : Ev c F l st (.Name x pos) Post :=
  fun A P ow m s Q E X k => by
    obtain ⟨i, kk, hn, hv⟩ := look_idx hx
    obtain ⟨y, k', v, hn', hh, hi⟩ := X.var i d hv
    rw [hn] at hn'; cases hn'
    refine wpAny_Name (load_holds X hn hh ?_ hcd) hd
    exact k v d st.tb s h X (hi.mono fun a ha => ha.elim .inl fun q => .inr q.2) Ext1.refl

theorem OwnObj.is {N : Addr → Prop} {h : Heap} {a : Addr} {d : D} {pl : Bool} (o : OwnObj c N h a pl d) {N' : Addr → Prop} (hN : ∀ a, N' a → N a) (ha : ¬ N' a) : Is c N' h (.ref a) d := by
  cases o with
  | list hl _ r => exact .list hl ha (r.mono hN)
  | map hm hl q => exact .map hm hl ha q

/-- a name that owns its object: its value, weakly -/
theorem Ev.oname {x : Str} {k : NameKind} {pos : Pos} {i : Nat} {d : D} (ho : st.own = some (i, d)) (hn : F.names[i]? = some (x, k)) (h : Post d st) (hd : (x == ("__debug__" : Str)) = false := by decide) (hcd : (x == ("__classdict__" : Str)) = false := by decide) :
    Ev c F false st (.Name x pos) Post :=
  fun A P ow m s Q E X k => by
    obtain ⟨⟨y, k', hn', hh⟩, hobj, h1, _⟩ := X.ovar i d ho
    rw [hn] at hn'; cases hn'
    refine wpAny_Name (load_holds X hn hh ?_ hcd) hd
    refine k _ d st.tb s h X (hobj.is (fun a ha => .inl (ha.elim id fun q => absurd q.1 (by decide))) ?_) Ext1.refl
    exact fun q => h1 (q.elim id fun q => absurd q.1 (by decide))

/-- a global of the text -/
theorem gname {A P : Addr → Prop} {ow : Addr} {m : Str → Option Value} {s : Shared} {Q : Value → Shared → Prop} {E : Value → Shared → Prop} (X : Core c F A P st s ow m) {x : Str} {pos : Pos} {v : Value}
    (hx : F.names.lookup x = some .globalImplicit) (hv : c.mg x = some v) (h : Q v s) (hd : (x == ("__debug__" : Str)) = false := by decide) : wpAny (model c.prog c.w) F.A (eval (.Name x pos) F.env) Q E s := by
  refine Name_function_global X.wf.kind (by unfold Env.kindOf; rw [X.wf.names]; exact hx) (loadGlobal_global (mg := c.mg) ?_ hv h) hd
  rw [X.wf.glob]; exact c.g.keeps X.mid.base
/-- a built-in's name -/
theorem bname {A P : Addr → Prop} {ow : Addr} {m : Str → Option Value} {s : Shared} {Q : Value → Shared → Prop} {E : Value → Shared → Prop} (X : Core c F A P st s ow m) {x : Str} {pos : Pos} {v : Value}
    (hx : F.names.lookup x = some .globalImplicit) (hg : c.mg x = Option.none) (hv : bootBuiltins x = some v) (hn : x ≠ "__name__") (h : Q v s) (hd : (x == ("__debug__" : Str)) = false := by decide) : wpAny (model c.prog c.w) F.A (eval (.Name x pos) F.env) Q E s := by
  refine Name_function_global X.wf.kind (by unfold Env.kindOf; rw [X.wf.names]; exact hx) (loadGlobal_builtin (mg := c.mg) (mb := c.mb) ?_ hg ?_ ((c.builtins x hn).trans hv) h) hd
  · rw [X.wf.glob]; exact c.g.keeps X.mid.base
  · rw [X.wf.bui]; exact c.b.keeps X.mid.base

/-- two operands -/
theorem two {e₁ e₂ : Expr} {A P : Addr → Prop} {ow : Addr} {m : Str → Option Value} {s : Shared} {Q : Value → Value → Shared → Prop} {E : Value → Shared → Prop} {l₁ l₂ : Bool} {Post2 : D → D → St → Prop}
    (h : Ev c F l₁ st e₁ fun d₁ st₁ => Ev c F l₂ st₁ e₂ fun d₂ st₂ => Post2 d₁ d₂ st₂) (X : Core c F A P st s ow m)
    (k : ∀ v₁ v₂ d₁ d₂ n s', Post2 d₁ d₂ { st with tb := n } → Core c F A P { st with tb := n } s' ow m → Is c (Av F l₁ A st ow) s'.heap v₁ d₁ → Is c (Av F l₂ A st ow) s'.heap v₂ d₂ → Ext1 c s.heap s'.heap → Q v₁ v₂ s') :
    wpAny (model c.prog c.w) F.A (eval e₁ F.env) (fun v₁ s₁ => wpAny (model c.prog c.w) F.A (eval e₂ F.env) (fun v₂ s₂ => Q v₁ v₂ s₂) E s₁) E s := by
  refine h A P ow m s _ E X fun v₁ d₁ n₁ s₁ p₁ X₁ i₁ e₁ => ?_
  refine p₁ A P ow m s₁ _ E X₁ fun v₂ d₂ n₂ s₂ p₂ X₂ i₂ e₂ => ?_
  exact k v₁ v₂ d₁ d₂ n₂ s₂ p₂ X₂ (i₁.ext1 e₂ (X.Avdk _)) i₂ (e₁.trans e₂)

theorem Ev.add {e₁ e₂ : Expr} {pos : Pos} (h : Ev c F false st e₁ fun d₁ st₁ => Ev c F false st₁ e₂ fun d₂ st₂ => ∃ i j, d₁ = .int i ∧ d₂ = .int j ∧ Post (.int (i + j)) st₂) : Ev c F l st (.BinOp e₁ .Add e₂ pos) Post :=
  fun A P ow m s Q E X k => wpAny_BinOp (two h X fun v₁ v₂ d₁ d₂ n s' p X' i₁ i₂ e => by
    obtain ⟨i, j, rfl, rfl, p⟩ := p; cases i₁; cases i₂
    exact PyProof.Rows.add_int (k _ _ n _ p (X'.tok _) (.int _ _) e))
theorem Ev.sub {e₁ e₂ : Expr} {pos : Pos} (h : Ev c F false st e₁ fun d₁ st₁ => Ev c F false st₁ e₂ fun d₂ st₂ => ∃ i j, d₁ = .int i ∧ d₂ = .int j ∧ Post (.int (i - j)) st₂) : Ev c F l st (.BinOp e₁ .Sub e₂ pos) Post :=
  fun A P ow m s Q E X k => wpAny_BinOp (two h X fun v₁ v₂ d₁ d₂ n s' p X' i₁ i₂ e => by
    obtain ⟨i, j, rfl, rfl, p⟩ := p; cases i₁; cases i₂
    exact PyProof.Rows.sub_int (k _ _ n _ p (X'.tok _) (.int _ _) e))
theorem Ev.mul {e₁ e₂ : Expr} {pos : Pos} (h : Ev c F false st e₁ fun d₁ st₁ => Ev c F false st₁ e₂ fun d₂ st₂ => ∃ i j, d₁ = .int i ∧ d₂ = .int j ∧ IntMulOk i j ∧ Post (.int (i * j)) st₂) : Ev c F l st (.BinOp e₁ .Mult e₂ pos) Post :=
  fun A P ow m s Q E X k => wpAny_BinOp (two h X fun v₁ v₂ d₁ d₂ n s' p X' i₁ i₂ e => by
    obtain ⟨i, j, rfl, rfl, hm, p⟩ := p; cases i₁; cases i₂
    exact PyProof.Rows.mul_int (k _ _ n _ p (X'.tok _) (.int _ _) e) hm)
theorem Ev.mod {e₁ e₂ : Expr} {pos : Pos} (h : Ev c F false st e₁ fun d₁ st₁ => Ev c F false st₁ e₂ fun d₂ st₂ => ∃ i j, d₁ = .int i ∧ d₂ = .int j ∧ j ≠ 0 ∧ Post (.int (i.fmod j)) st₂) : Ev c F l st (.BinOp e₁ .Mod e₂ pos) Post :=
  fun A P ow m s Q E X k => wpAny_BinOp (two h X fun v₁ v₂ d₁ d₂ n s' p X' i₁ i₂ e => by
    obtain ⟨i, j, rfl, rfl, hm, p⟩ := p; cases i₁; cases i₂
    exact PyProof.Rows.mod_int' hm (k _ _ n _ p (X'.tok _) (.int _ _) e))
theorem Ev.floordiv {e₁ e₂ : Expr} {pos : Pos} (h : Ev c F false st e₁ fun d₁ st₁ => Ev c F false st₁ e₂ fun d₂ st₂ => ∃ i j, d₁ = .int i ∧ d₂ = .int j ∧ j ≠ 0 ∧ j.natAbs < 1073741824 ∧ Post (.int (i.fdiv j)) st₂) : Ev c F l st (.BinOp e₁ .FloorDiv e₂ pos) Post :=
  fun A P ow m s Q E X k => wpAny_BinOp (two h X fun v₁ v₂ d₁ d₂ n s' p X' i₁ i₂ e => by
    obtain ⟨i, j, rfl, rfl, hm, hs, p⟩ := p; cases i₁; cases i₂
    exact PyProof.Rows.floordiv_int hm (k _ _ n _ p (X'.tok _) (.int _ _) e) (Or.inl (PyProof.noPylong_small hs)))

/-- the comparisons of ints -/
noncomputable def cmpI : CmpOp → Int → Int → Option Bool
  | .Eq, i, j => some (i == j)
  | .NotEq, i, j => some (i != j)
  | .Lt, i, j => some (decide (i < j))
  | .LtE, i, j => some (decide (i ≤ j))
  | .Gt, i, j => some (decide (j < i))
  | .GtE, i, j => some (decide (j ≤ i))
  | _, _, _ => Option.none
theorem cmp_ints {M A} {E : Value → Shared → Prop} {s : Shared} {prog : Program} {w : World} (hM : M = model prog w) {op : CmpOp} {i j : Int} {t u : Tok} {b : Bool} (h : cmpI op i j = some b) {Q : Value → Shared → Prop} (q : Q (.bool b) s) : wpAny M A (compareOp op (.int i t) (.int j u)) Q E s := by
  subst hM
  cases op <;> simp only [cmpI, Option.some.injEq, reduceCtorEq] at h <;> subst h
  · exact PyProof.Rows.eq_int q
  · exact PyProof.Rows.ne_int q
  · exact PyProof.Rows.lt_int q
  · exact PyProof.Rows.le_int q
  · exact PyProof.Rows.gt_int q
  · exact PyProof.Rows.ge_int q


mutual
noncomputable def D.py : D → PyData
  | .none => .none
  | .bool b => .bool b
  | .int i => .int i
  | .tup ds => .tuple (D.pys ds)
  | .list ds => .list (D.pys ds)
  | _ => .none
noncomputable def D.pys : List D → List PyData
  | [] => []
  | d :: ds => d.py :: D.pys ds
end
/-- data that == takes: none, ints, tuples and lists of such -/
noncomputable def D.ok : Nat → D → Bool
  | _, .none => true
  | _, .int _ => true
  | n + 1, .tup ds => ds.all (D.ok n)
  | n + 1, .list ds => ds.all (D.ok n)
  | _, _ => false
theorem D.ok_tup {n ds} : D.ok (n + 1) (.tup ds) = true ↔ ∀ d ∈ ds, D.ok n d = true := by simp [D.ok]
theorem D.ok_list {n ds} : D.ok (n + 1) (.list ds) = true ↔ ∀ d ∈ ds, D.ok n d = true := by simp [D.ok]

mutual
theorem Is.reads {N h} : ∀ {v : Value} {d : D} (n : Nat), Is c N h v d → D.ok n d = true → ∃ as, Reads h v d.py as
  | _, _, _, .none, _ => ⟨_, Reads.none⟩
  | _, _, _, .bool b, _ => ⟨_, Reads.bool b⟩
  | _, _, _, .int i t, _ => ⟨_, Reads.int i t⟩
  | _, _, 0, .tup .., hk => by simp [D.ok] at hk
  | _, _, 0, .list .., hk => by simp [D.ok] at hk
  | _, _, n + 1, .tup ht _ r, hk => by
    obtain ⟨as, q⟩ := IsAll.reads n r (D.ok_tup.mp hk)
    obtain ⟨o, ho, hc, k, hd⟩ := ht
    exact ⟨as, by rw [D.py]; exact reads_tuple_at ho hc hd (by simpa using q)⟩
  | _, _, n + 1, .list ht _ r, hk => by
    obtain ⟨as, q⟩ := IsAll.reads n r (D.ok_list.mp hk)
    obtain ⟨o, ho, hc, k, hd⟩ := ht
    exact ⟨_, by rw [D.py]; exact reads_list_at ho hc hd (by simpa using q)⟩
  | _, _, n, .map .., hk => by cases n <;> simp [D.ok] at hk
  | _, _, n, .keys .., hk => by cases n <;> simp [D.ok] at hk
  | _, _, n, .piece .., hk => by cases n <;> simp [D.ok] at hk
  | _, _, n, .deck, hk => by cases n <;> simp [D.ok] at hk
theorem IsAll.reads {N h} : ∀ {vs : List Value} {ds : List D} (n : Nat), IsAll c N h vs ds → (∀ d ∈ ds, D.ok n d = true) → ∃ as, ReadsAll h vs (D.pys ds) as
  | _, _, _, .nil, _ => ⟨_, by rw [D.pys]; exact ReadsAll.nil⟩
  | _, _, n, .cons x r, hk => by
    obtain ⟨as, q⟩ := Is.reads n x (hk _ (.head _))
    obtain ⟨bs, p⟩ := IsAll.reads n r fun d hm => hk d (.tail _ hm)
    exact ⟨_, by rw [D.pys]; exact ReadsAll.cons q p⟩
end

theorem py_lay : ∀ (n : Nat) (d : D), D.ok n d = true → d.py.canLay0 = true ∧ d.py.depth ≤ n := by
  have all : ∀ (n : Nat), (∀ d, D.ok n d = true → d.py.canLay0 = true ∧ d.py.depth ≤ n) → ∀ ds : List D, (∀ d ∈ ds, D.ok n d = true) → PyData.canLayAll0 (D.pys ds) = true ∧ PyData.depthAll (D.pys ds) ≤ n := by
    intro n ih ds
    induction ds with
    | nil => intro _; simp [D.pys, PyData.canLayAll0, PyData.depthAll]
    | cons d ds hi =>
      intro h
      have h1 := ih d (h d (.head _))
      have h2 := hi fun e he => h e (.tail _ he)
      simp only [D.pys, PyData.canLayAll0, PyData.depthAll, h1.1, h2.1, Bool.and_self, true_and]
      have a1 := h1.2
      have a2 := h2.2
      lia
  intro n
  induction n with
  | zero => intro d h; cases d <;> simp_all [D.ok, D.py, PyData.canLay0, PyData.depth]
  | succ n ih =>
    intro d h
    cases d with
    | tup ds =>
      have q := all n ih ds (D.ok_tup.mp h)
      have q2 := q.2
      simp only [D.py, PyData.canLay0, PyData.depth, q.1, true_and]
      lia
    | list ds =>
      have q := all n ih ds (D.ok_list.mp h)
      have q2 := q.2
      simp only [D.py, PyData.canLay0, PyData.depth, q.1, true_and]
      lia
    | _ => simp_all [D.ok, D.py, PyData.canLay0, PyData.depth]

theorem py_eqv : ∀ (n : Nat) (d e : D) (k : Nat), D.ok n d = true → D.ok k e = true → (PyData.eqv d.py e.py = true ↔ d = e) := by
  have all : ∀ (n : Nat), (∀ d e k, D.ok n d = true → D.ok k e = true → (PyData.eqv d.py e.py = true ↔ d = e)) → ∀ (k : Nat) (ds es : List D), (∀ d ∈ ds, D.ok n d = true) → (∀ d ∈ es, D.ok k d = true) →
      (PyData.eqvAll (D.pys ds) (D.pys es) = true ↔ ds = es) := by
    intro n ih k ds
    induction ds with
    | nil => intro es _ _; cases es <;> simp [D.pys, PyData.eqvAll]
    | cons d ds hi =>
      intro es h1 h2
      cases es with
      | nil => simp [D.pys, PyData.eqvAll]
      | cons e es =>
        have q1 := ih d e k (h1 d (.head _)) (h2 e (.head _))
        have q2 := hi es (fun x hx => h1 x (.tail _ hx)) fun x hx => h2 x (.tail _ hx)
        simp only [D.pys, PyData.eqvAll, Bool.and_eq_true, q1, q2, List.cons.injEq]
  intro n
  induction n with
  | zero =>
    intro d e k h1 h2
    cases d <;> cases e <;> cases k <;> simp_all [D.ok, D.py, PyData.eqv]
  | succ n ih =>
    intro d e k h1 h2
    cases d with
    | tup ds =>
      cases e with
      | tup es =>
        cases k with
        | zero => simp [D.ok] at h2
        | succ k =>
          simp only [D.py, PyData.eqv, D.tup.injEq]
          exact all n ih k ds es (D.ok_tup.mp h1) (D.ok_tup.mp h2)
      | _ => cases k <;> simp_all [D.ok, D.py, PyData.eqv]
    | list ds =>
      cases e with
      | list es =>
        cases k with
        | zero => simp [D.ok] at h2
        | succ k =>
          simp only [D.py, PyData.eqv, D.list.injEq]
          exact all n ih k ds es (D.ok_list.mp h1) (D.ok_list.mp h2)
      | _ => cases k <;> simp_all [D.ok, D.py, PyData.eqv]
    | _ => cases e <;> cases k <;> simp_all [D.ok, D.py, PyData.eqv]

/-- a comparison gives b -/
noncomputable def CmpOk (c : Cx) (op : CmpOp) (d₁ d₂ : D) (b : Bool) : Prop :=
  ∀ (B : Around) (Q : Value → Shared → Prop) (E : Value → Shared → Prop) (s : Shared) (v₁ v₂ : Value) (N₁ N₂ : Addr → Prop), Room 0 B → Is c N₁ s.heap v₁ d₁ → Is c N₂ s.heap v₂ d₂ →
    (∀ tk, Q (.bool b) { s with toks := tk }) → wpAny (model c.prog c.w) B (compareOp op v₁ v₂) Q E s

theorem CmpOk.int {op : CmpOp} {i j : Int} {b : Bool} (h : cmpI op i j = some b) : CmpOk c op (.int i) (.int j) b := by
  intro B Q E s v₁ v₂ N₁ N₂ _ i₁ i₂ q
  cases i₁; cases i₂
  exact cmp_ints rfl h (q s.toks)
theorem CmpOk.eq {d₁ d₂ : D} {b : Bool} (h₁ : D.ok 8 d₁ = true) (h₂ : D.ok 8 d₂ = true) (h : b = true ↔ d₁ = d₂) : CmpOk c .Eq d₁ d₂ b := by
  intro B Q E s v₁ v₂ N₁ N₂ r i₁ i₂ q
  obtain ⟨as, ra⟩ := i₁.reads 8 h₁
  obtain ⟨bs, rb⟩ := i₂.reads 8 h₂
  have la := py_lay 8 d₁ h₁
  have lb := py_lay 8 d₂ h₂
  have e : PyData.eqv d₁.py d₂.py = b := by rw [Bool.eq_iff_iff, h]; exact py_eqv 8 d₁ d₂ 8 h₁ h₂
  refine eq_dataH ra rb ?_ ?_ ?_ (by rw [e]; exact q s.toks)
  · unfold SeqAt.shaped; rw [la.1, Bool.true_and]; exact decide_eq_true (Nat.le_trans la.2 (by decide))
  · unfold SeqAt.shaped; rw [lb.1, Bool.true_and]; exact decide_eq_true (Nat.le_trans lb.2 (by decide))
  · have := r.2.2; rw [cLine_is]; lia
theorem CmpOk.ne {d₁ d₂ : D} {b : Bool} (h₁ : D.ok 8 d₁ = true) (h₂ : D.ok 8 d₂ = true) (h : b = true ↔ d₁ ≠ d₂) : CmpOk c .NotEq d₁ d₂ b := by
  intro B Q E s v₁ v₂ N₁ N₂ r i₁ i₂ q
  obtain ⟨as, ra⟩ := i₁.reads 8 h₁
  obtain ⟨bs, rb⟩ := i₂.reads 8 h₂
  have la := py_lay 8 d₁ h₁
  have lb := py_lay 8 d₂ h₂
  have e : (!PyData.eqv d₁.py d₂.py) = b := by
    rw [Bool.eq_iff_iff, h, Bool.not_eq_true', ← Bool.not_eq_true]; exact not_congr (py_eqv 8 d₁ d₂ 8 h₁ h₂)
  refine ne_dataH ra rb ?_ ?_ ?_ (by rw [e]; exact q s.toks)
  · unfold SeqAt.shaped; rw [la.1, Bool.true_and]; exact decide_eq_true (Nat.le_trans la.2 (by decide))
  · unfold SeqAt.shaped; rw [lb.1, Bool.true_and]; exact decide_eq_true (Nat.le_trans lb.2 (by decide))
  · have := r.2.2; rw [cLine_is]; lia
theorem Is.isNone {N h v d} (x : Is c N h v d) : (v == Value.none) = true ↔ d = .none := by
  cases x <;> simp
theorem CmpOk.isNone {d : D} {b : Bool} (h : b = true ↔ d = .none) : CmpOk c .Is d .none b := by
  intro B Q E s v₁ v₂ N₁ N₂ r i₁ i₂ q
  cases i₂
  refine is_none_gen ?_
  have e : (v₁ == Value.none) = b := by rw [Bool.eq_iff_iff, h]; exact i₁.isNone
  rw [e]; exact q s.toks
theorem CmpOk.isNotNone {d : D} {b : Bool} (h : b = true ↔ d ≠ .none) : CmpOk c .IsNot d .none b := by
  intro B Q E s v₁ v₂ N₁ N₂ r i₁ i₂ q
  cases i₂
  refine isnot_none_gen ?_
  have e : (!(v₁ == Value.none)) = b := by rw [Bool.eq_iff_iff, h, Bool.not_eq_true', ← Bool.not_eq_true]; exact not_congr i₁.isNone
  rw [e]; exact q s.toks
theorem MapVal.isSome {v : Option Value} {g : Option Int} (h : MapVal v g) : v.isSome = g.isSome := by
  cases v with
  | none => cases g with
    | none => rfl
    | some _ => exact h.elim
  | some v => cases g with
    | none => cases v <;> exact h.elim
    | some _ => rfl
theorem CmpOk.inMap {i : Int} {g : Int → Option Int} {n : Nat} : CmpOk c .In (.int i) (.map g n) (g i).isSome := by
  intro B Q E s v₁ v₂ N₁ N₂ r i₁ i₂ q
  cases i₁
  cases i₂ with
  | map hm _ _ hv => exact wpAny_in_intMap hm (by rw [(hv i).isSome]; exact q _)
theorem CmpOk.inKeys {i : Int} {p : Int → Bool} : CmpOk c .In (.int i) (.keys p) (p i) := by
  intro B Q E s v₁ v₂ N₁ N₂ r i₁ i₂ q
  cases i₁
  cases i₂ with
  | keys hm _ hv => exact wpAny_in_intMap hm (by rw [hv i]; exact q _)

theorem Ev.cmp {op : CmpOp} {e₁ e₂ : Expr} {pos : Pos} (h : Ev c F false st e₁ fun d₁ st₁ => Ev c F false st₁ e₂ fun d₂ st₂ => ∃ b, CmpOk c op d₁ d₂ b ∧ Post (.bool b) st₂)
    (hm : behindInMarks op e₂ = false := by with_unfolding_all rfl) : Ev c F l st (.Compare e₁ [op] [e₂] pos) Post := by
  intro A P ow m s Q E X k
  refine wpAny_Compare1 (two h X fun v₁ v₂ d₁ d₂ n s' p X' i₁ i₂ e => ?_) hm
  obtain ⟨b, hc, p⟩ := p
  have r := X'.wf.room
  refine hc _ _ _ _ _ _ _ _ ⟨r.1, by have := r.2.1; lia, by have := r.2.2; lia⟩ i₁ i₂ fun tk => ?_
  exact k _ _ n _ p (X'.tok tk) (.bool b) e
theorem Tst.cmp {op : CmpOp} {e₁ e₂ : Expr} {pos : Pos} {Post : Bool → St → Prop} (h : Ev c F false st e₁ fun d₁ st₁ => Ev c F false st₁ e₂ fun d₂ st₂ => ∃ b, CmpOk c op d₁ d₂ b ∧ Post b st₂)
    (hm : behindInMarks op e₂ = false := by with_unfolding_all rfl) : Tst c F st (.Compare e₁ [op] [e₂] pos) Post := by
  intro A P ow m s Q E X k
  refine wpAny_isTrue_Compare1 (two h X fun v₁ v₂ d₁ d₂ n s' p X' i₁ i₂ e => ?_) hm
  obtain ⟨b, hc, p⟩ := p
  have r := X'.wf.room
  refine hc _ _ _ _ _ _ _ _ ⟨r.1, by have := r.2.1; lia, by have := r.2.2; lia⟩ i₁ i₂ fun tk => ?_
  exact wpAny_truthy_bool (k _ n _ p (X'.tok tk) e)
theorem Tst.val {e : Expr} {Post : Bool → St → Prop} (h : Ev c F false st e fun d st₁ => ∃ b, d = .bool b ∧ Post b st₁) (he : isTrue e F.env (eval e F.env) = (do let v ← eval e F.env; standAt e.pos; holding [v] (truthy v)) := by rfl) : Tst c F st e Post := by
  intro A P ow m s Q E X k
  refine PyProof.Rows.isTrue_plain (h A P ow m s _ E X fun v d n s' p X' i e' => ?_) he
  obtain ⟨b, rfl, p⟩ := p
  cases i
  exact wpAny_truthy_bool (k _ n _ p X' e')
theorem Tst.not {e : Expr} {pos : Pos} {Post : Bool → St → Prop} (h : Tst c F st e fun b st₁ => Post (!b) st₁) : Tst c F st (.UnaryOp .Not e pos) Post := by
  intro A P ow m s Q E X k
  exact PyProof.Rows.isTrue_not (h A P ow m s _ E X fun b n s' p X' e' => k _ n _ p X' e')
theorem Tst.and {e₁ e₂ : Expr} {pos : Pos} {Post : Bool → St → Prop} (h : Tst c F st e₁ fun b st₁ => (b = true → Tst c F st₁ e₂ Post) ∧ (b = false → Post false st₁)) : Tst c F st (.BoolOp .And [e₁, e₂] pos) Post := by
  intro A P ow m s Q E X k
  refine wpAny_isTrue_BoolOp (wpAny_allTrue_And_cons (h A P ow m s _ E X fun b n s' p X' e' => ?_))
  cases b with
  | false => exact k _ n _ (p.2 rfl) X' e'
  | true =>
    refine wpAny_allTrue_And_cons (p.1 rfl A P ow m s' _ E X' fun b n₂ s₂ p₂ X₂ e₂ => ?_)
    cases b with
    | false => exact k _ n₂ _ p₂ X₂ (e'.trans e₂)
    | true => exact wpAny_allTrue_And_nil (k _ n₂ _ p₂ X₂ (e'.trans e₂))
theorem Tst.and3 {e₁ e₂ e₃ : Expr} {pos : Pos} {Post : Bool → St → Prop} (h : Tst c F st e₁ fun b st₁ => (b = true → Tst c F st₁ e₂ fun b st₂ => (b = true → Tst c F st₂ e₃ Post) ∧ (b = false → Post false st₂)) ∧ (b = false → Post false st₁)) : Tst c F st (.BoolOp .And [e₁, e₂, e₃] pos) Post := by
  intro A P ow m s Q E X k
  refine wpAny_isTrue_BoolOp (wpAny_allTrue_And_cons (h A P ow m s _ E X fun b n s' p X' e' => ?_))
  cases b with
  | false => exact k _ n _ (p.2 rfl) X' e'
  | true =>
    refine wpAny_allTrue_And_cons (p.1 rfl A P ow m s' _ E X' fun b n₂ s₂ p₂ X₂ e₂ => ?_)
    cases b with
    | false => exact k _ n₂ _ (p₂.2 rfl) X₂ (e'.trans e₂)
    | true =>
      refine wpAny_allTrue_And_cons (p₂.1 rfl A P ow m s₂ _ E X₂ fun b n₃ s₃ p₃ X₃ e₃ => ?_)
      cases b with
      | false => exact k _ n₃ _ p₃ X₃ ((e'.trans e₂).trans e₃)
      | true => exact wpAny_allTrue_And_nil (k _ n₃ _ p₃ X₃ ((e'.trans e₂).trans e₃))
theorem Tst.or {e₁ e₂ : Expr} {pos : Pos} {Post : Bool → St → Prop} (h : Tst c F st e₁ fun b st₁ => (b = false → Tst c F st₁ e₂ Post) ∧ (b = true → Post true st₁)) : Tst c F st (.BoolOp .Or [e₁, e₂] pos) Post := by
  intro A P ow m s Q E X k
  refine wpAny_isTrue_BoolOp (wpAny_allTrue_Or_cons (h A P ow m s _ E X fun b n s' p X' e' => ?_))
  cases b with
  | true => exact k _ n _ (p.2 rfl) X' e'
  | false =>
    refine wpAny_allTrue_Or_cons (p.1 rfl A P ow m s' _ E X' fun b n₂ s₂ p₂ X₂ e₂ => ?_)
    cases b with
    | true => exact k _ n₂ _ p₂ X₂ (e'.trans e₂)
    | false => exact wpAny_allTrue_Or_nil (k _ n₂ _ p₂ X₂ (e'.trans e₂))
/-- a test whose value is wanted -/
theorem Ev.ifexp {t e₁ e₂ : Expr} {pos : Pos} (h : Tst c F st t fun b st₁ => (b = true → Ev c F l st₁ e₁ Post) ∧ (b = false → Ev c F l st₁ e₂ Post)) : Ev c F l st (.IfExp t e₁ e₂ pos) Post := by
  intro A P ow m s Q E X k
  refine wpAny_IfExp (h A P ow m s _ E X fun b n s' p X' e' => ?_)
  cases b with
  | true => exact p.1 rfl A P ow m s' Q E X' fun v d n₂ s₂ p₂ X₂ i₂ e₂ => k v d n₂ s₂ p₂ X₂ i₂ (e'.trans e₂)
  | false => exact p.2 rfl A P ow m s' Q E X' fun v d n₂ s₂ p₂ X₂ i₂ e₂ => k v d n₂ s₂ p₂ X₂ i₂ (e'.trans e₂)
theorem Ev.not {e : Expr} {pos : Pos} (h : Ev c F false st e fun d st₁ => ∃ b, d = .bool b ∧ Post (.bool (!b)) st₁) : Ev c F l st (.UnaryOp .Not e pos) Post := by
  intro A P ow m s Q E X k
  rw [arm_eval_UnaryOp]
  refine wpAny_bind (h A P ow m s _ E X fun v d n s' p X' i e' => ?_)
  obtain ⟨b, rfl, p⟩ := p
  cases i
  refine wpAny_bind (wpAny_standAt (wpAny_holding (not_of (wpAny_truthy_bool ?_))))
  exact k _ _ n _ p X' (.bool _) e'

theorem EvL.nil {Post : List D → St → Prop} (h : Post [] st) : EvL c F l st [] Post := by
  intro A P ow m s Q E pos X k
  exact PyProof.Rows.spliced_none (k _ _ st.tb _ h X .nil Ext1.refl)
theorem EvL.cons {e : Expr} {es : List Expr} {Post : List D → St → Prop} (h : Ev c F l st e fun d st₁ => EvL c F l st₁ es fun ds st₂ => Post (d :: ds) st₂)
    (he : starEach (e :: es) F.env = (false, eval e F.env) :: starEach es F.env := by rfl) : EvL c F l st (e :: es) Post := by
  intro A P ow m s Q E pos X k
  refine PyProof.Rows.spliced_more (h A P ow m s _ E X fun v d n s' p X' i e' => ?_) he
  refine p A P ow m s' _ E pos X' fun vs ds n₂ s₂ p₂ X₂ i₂ e₂ => ?_
  exact k _ _ n₂ s₂ p₂ X₂ (.cons (i.ext1 e₂ (X.Avdk _)) i₂) (e'.trans e₂)

theorem Is.newN {A : Addr → Prop} {ow : Addr} {m : Str → Option Value} {P : Addr → Prop} {s : Shared} (X : Core c F A P st s ow m) : ¬ Av F l A st ow s.heap.objs.size := by
  have fresh : ∀ o, s.heap.get? s.heap.objs.size ≠ some o := fun o e => Nat.lt_irrefl _ (Heap.lt_size e)
  rintro (h | ⟨_, h⟩)
  · obtain ⟨o, e⟩ := X.Alt _ h; exact fresh o e
  · rcases h with h | ⟨x, h⟩ | ⟨h, h'⟩
    · exact absurd X.ns.lt (by rw [← h]; exact Nat.lt_irrefl _)
    · obtain ⟨v, o, e, _⟩ := X.ocells _ _ h; exact fresh o e
    · obtain ⟨⟨i, d⟩, hq⟩ := Option.isSome_iff_exists.mp h
      obtain ⟨_, ho, _⟩ := X.ovar i d hq
      rw [← h'] at ho
      cases ho with
      | list hl _ _ => obtain ⟨o, e, _⟩ := hl; exact fresh o e
      | map hm _ _ => obtain ⟨o, _, _, e, _⟩ := hm; exact fresh o e

theorem push_keep {h : Heap} (o : Obj) : ∀ a x, h.get? a = some x → (h.push o).get? a = some x := fun _ _ e => Heap.get?_push_of_some o e
theorem Ev.list {es : List Expr} {pos : Pos} (h : EvL c F l st es fun ds st₁ => ds.length ≤ 1000000 ∧ Post (.list ds) st₁) : Ev c F l st (.List es pos) Post := by
  intro A P ow m s Q E X k
  refine PyProof.Rows.List_ (h A P ow m s _ E pos X fun vs ds n s' p X' i e' => ?_)
  refine wpAny_newObj_type ?_ (by show vs.toArray.size ≤ sizeLine; rw [List.size_toArray, i.length, sizeLine_eq]; lia)
  refine k _ _ n _ p.2 (X'.keep (tk := s'.toks) (push_keep _)) (.list ⟨_, Heap.get?_push_size _ rfl, rfl, _, rfl⟩ (Is.newN (st := { st with tb := n }) X') ?_) (e'.trans (Ext1.push _))
  exact i.ext fun a o e nn => ⟨push_keep _ a o e, nn⟩
theorem Ev.tup {es : List Expr} {kk : Nat} {pos : Pos} (h : EvL c F l st es fun ds st₁ => ds.length ≤ 1000000 ∧ Post (.tup ds) st₁) : Ev c F l st (.Tuple es kk pos) Post := by
  intro A P ow m s Q E X k
  refine PyProof.Rows.Tuple_ (h A P ow m s _ E pos X fun vs ds n s' p X' i e' => ?_)
  refine wpAny_newObj_type ?_ (by show vs.toArray.size ≤ sizeLine; rw [List.size_toArray, i.length, sizeLine_eq]; lia)
  refine k _ _ n _ p.2 (X'.keep (tk := s'.toks) (push_keep _)) (.tup ⟨_, Heap.get?_push_size _ rfl, rfl, _, rfl⟩ (Is.newN (st := { st with tb := n }) X') ?_) (e'.trans (Ext1.push _))
  exact i.ext fun a o e nn => ⟨push_keep _ a o e, nn⟩
end
end Mine

set_option maxRecDepth 100000
namespace Mine
open PySem PySem.W PyProof.Rows PySem.Calls

section
variable {c : Cx} {F : Fm} {l : Bool} {st : St} {Post : D → St → Prop}

theorem Is.invList {N : Addr → Prop} {h : Heap} {v : Value} {ds : List D} (x : Is c N h v (.list ds)) : ∃ a vs, v = .ref a ∧ h.IsList a vs.toArray ∧ ¬ N a ∧ IsAll c N h vs ds := by
  cases x with | list hl n r => exact ⟨_, _, rfl, hl, n, r⟩
theorem Is.invTup {N : Addr → Prop} {h : Heap} {v : Value} {ds : List D} (x : Is c N h v (.tup ds)) : ∃ a vs, v = .ref a ∧ IsTup h a vs.toArray ∧ ¬ N a ∧ IsAll c N h vs ds := by
  cases x with | tup hl n r => exact ⟨_, _, rfl, hl, n, r⟩
theorem Is.invMap {N : Addr → Prop} {h : Heap} {v : Value} {g : Int → Option Int} {n : Nat} (x : Is c N h v (.map g n)) : ∃ a f, v = .ref a ∧ h.IntMap a f ∧ h.DictLe a n ∧ ¬ N a ∧ ∀ k, MapVal (f k) (g k) := by
  cases x with | map hl q n r => exact ⟨_, _, rfl, hl, q, n, r⟩
theorem Is.invInt {N : Addr → Prop} {h : Heap} {v : Value} {i : Int} (x : Is c N h v (.int i)) : ∃ t, v = .int i t := by
  cases x; exact ⟨_, rfl⟩
theorem Is.invPiece {N : Addr → Prop} {h : Heap} {v : Value} {i j : Int} {ls : List D} (x : Is c N h v (.piece i j ls)) : ∃ x dx es n ti tj vl, v = .ref x ∧ h.get? x = some (instObj c.C dx) ∧ h.get? dx = some (dictOf es n) ∧ ¬ N x ∧ ¬ N dx ∧
      getL "first" es = some (some (.int i ti)) ∧ getL "behind" es = some (some (.int j tj)) ∧ getL "levels" es = some (some vl) ∧ getL "is_idle" es = some Option.none ∧ Is c N h vl (.list ls) := by
  cases x with | piece a b n1 n2 e1 e2 e3 e4 r => exact ⟨_, _, _, _, _, _, _, rfl, a, b, n1, n2, e1, e2, e3, e4, r⟩

theorem Ev.neg {e : Expr} {pos : Pos} (h : Ev c F false st e fun d st₁ => ∃ i, d = .int i ∧ Post (.int (-i)) st₁) : Ev c F l st (.UnaryOp .USub e pos) Post := by
  intro A P ow m s Q E X k
  rw [arm_eval_UnaryOp]
  refine wpAny_bind (h A P ow m s _ E X fun v d n s' p X' i e' => ?_)
  obtain ⟨b, rfl, p⟩ := p
  cases i
  exact wpAny_bind (wpAny_standAt (wpAny_holding (PyProof.Rows.neg_int (k _ _ n _ p (X'.tok _) (.int _ _) e'))))

/-- lists joined -/
theorem Ev.cat {e₁ e₂ : Expr} {pos : Pos} (h : Ev c F l st e₁ fun d₁ st₁ => Ev c F l st₁ e₂ fun d₂ st₂ => ∃ xs ys, d₁ = .list xs ∧ d₂ = .list ys ∧ xs.length + ys.length ≤ 1000000 ∧ Post (.list (xs ++ ys)) st₂) :
    Ev c F l st (.BinOp e₁ .Add e₂ pos) Post := by
  intro A P ow m s Q E X k
  refine wpAny_BinOp (two h X fun v₁ v₂ d₁ d₂ n s' p X' i₁ i₂ e => ?_)
  obtain ⟨xs, ys, rfl, rfl, hsz, p⟩ := p
  obtain ⟨a, vs, rfl, hl, _, r⟩ := i₁.invList
  obtain ⟨b, ws, rfl, hb, _, r2⟩ := i₂.invList
  obtain ⟨⟨cls, dd, data, sl⟩, ho, hc, nn, hd⟩ := id hl
  obtain ⟨⟨cls2, dd2, data2, sl2⟩, ho2, hc2, n2, hd2⟩ := id hb
  simp only at hc hd hc2 hd2
  subst hc hd hc2 hd2
  have e' : vs.toArray ++ ws.toArray = (vs ++ ws).toArray := by simp
  have r1 := r.length
  have r3 := r2.length
  refine concat_meets ⟨_, ho, rfl⟩ ⟨_, ho2, rfl⟩ noFill_list_add seq_list_add PySem.F.slot_list_add PySem.F.entry_list_add (PySem.F.args_list_add_2 _ _) (list_addW a b vs.toArray ws.toArray nn n2 dd dd2 sl sl2 (by simp only [List.size_toArray]; rw [sizeLine_eq]; lia)) ⟨ho, ho2, ?_⟩
  rw [e']
  refine k _ _ n _ p (X'.keep (tk := s'.toks) (push_keep _)) (.list ⟨_, Heap.get?_push_size _ rfl, rfl, _, rfl⟩ (Is.newN (st := { st with tb := n }) X') ?_) (e.trans (Ext1.push _))
  exact (r.append r2).ext fun a o e nn => ⟨push_keep _ a o e, nn⟩

/-- an item of ints, of lists of flat things: the new list holds no heap things at all -/
noncomputable def D.flat : D → Bool
  | .none => true
  | .bool _ => true
  | .int _ => true
  | _ => false
theorem Is.flat {N N' : Addr → Prop} {h h' : Heap} {v : Value} {d : D} (x : Is c N h v d) (f : d.flat = true) : Is c N' h' v d := by
  cases x <;> first | (simp [D.flat] at f; done) | constructor
theorem IsAll.flat {N N' : Addr → Prop} {h h' : Heap} {vs : List Value} {ds : List D} (x : IsAll c N h vs ds) (f : ∀ d ∈ ds, d.flat = true) : IsAll c N' h' vs ds := by
  induction vs generalizing ds with
  | nil => cases x; exact .nil
  | cons v vs ih => cases x with | cons a r => exact .cons (a.flat (f _ (.head _))) (ih r fun d hd => f d (.tail _ hd))

theorem Ev.catFlat {e₁ e₂ : Expr} {pos : Pos} (h : Ev c F false st e₁ fun d₁ st₁ => Ev c F false st₁ e₂ fun d₂ st₂ => ∃ xs ys, d₁ = .list xs ∧ d₂ = .list ys ∧ xs.length + ys.length ≤ 1000000 ∧ (∀ d ∈ xs ++ ys, d.flat = true) ∧ Post (.list (xs ++ ys)) st₂) :
    Ev c F l st (.BinOp e₁ .Add e₂ pos) Post := by
  intro A P ow m s Q E X k
  refine wpAny_BinOp (two h X fun v₁ v₂ d₁ d₂ n s' p X' i₁ i₂ e => ?_)
  obtain ⟨xs, ys, rfl, rfl, hsz, hfl, p⟩ := p
  obtain ⟨a, vs, rfl, hl, _, r⟩ := i₁.invList
  obtain ⟨b, ws, rfl, hb, _, r2⟩ := i₂.invList
  obtain ⟨⟨cls, dd, data, sl⟩, ho, hc, nn, hd⟩ := id hl
  obtain ⟨⟨cls2, dd2, data2, sl2⟩, ho2, hc2, n2, hd2⟩ := id hb
  simp only at hc hd hc2 hd2
  subst hc hd hc2 hd2
  have e' : vs.toArray ++ ws.toArray = (vs ++ ws).toArray := by simp
  have r1 := r.length
  have r3 := r2.length
  refine concat_meets ⟨_, ho, rfl⟩ ⟨_, ho2, rfl⟩ noFill_list_add seq_list_add PySem.F.slot_list_add PySem.F.entry_list_add (PySem.F.args_list_add_2 _ _) (list_addW a b vs.toArray ws.toArray nn n2 dd dd2 sl sl2 (by simp only [List.size_toArray]; rw [sizeLine_eq]; lia)) ⟨ho, ho2, ?_⟩
  rw [e']
  refine k _ _ n _ p (X'.keep (tk := s'.toks) (push_keep _)) (.list ⟨_, Heap.get?_push_size _ rfl, rfl, _, rfl⟩ (Is.newN (st := { st with tb := n }) X') ?_) (e.trans (Ext1.push _))
  exact (r.append r2).flat hfl

/-- the tail of a subscript -/
theorem subTail {M : Model} {prog : Program} {w : World} (hM : M = model prog w) {B : Around} {E : Value → Shared → Prop} {s : Shared} {value slice : Expr} {o i : Value} {T id : String} {Q : Value → Shared → Prop} (hT : s.TypeIs o T)
    (hl : typeLookup (.type T) "__getitem__" = pure (some (.builtin id))) (h : wpAny M B (getItem o i) Q E s) : wpAny M B (subscriptTail value slice o i) Q E s := by
  subst hM
  unfold subscriptTail
  refine wpAny_bind ?_
  unfold getitemInPython
  refine wpAny_bind (wpAny_specialOf hT hl (wpAny_pure ?_))
  have hs : ∃ ops, subscripted slice false o i = operate ops (getItem o i) := by
    unfold subscripted
    split <;> first | exact ⟨_, rfl⟩ | (rename_i q; cases q) | skip
  obtain ⟨ops, hs⟩ := hs
  refine wpAny_bind ?_
  rw [hs]
  exact wpAny_operating (wpAny_mono h (fun r s₃ h₃ => wpAny_bind (wpAny_letTemporaryGo (wpAny_pure h₃))) fun _ _ x => x)

/-- an item by an int -/
inductive ItemOk : D → D → D → Prop
  | list {ds : List D} {i : Int} {d : D} : 0 ≤ i → i < 2 ^ 62 → ds[i.toNat]? = some d → ItemOk (.list ds) (.int i) d
  | last {ds : List D} {d : D} : ds ≠ [] → ds.length < 2 ^ 62 → ds.getLast? = some d → ItemOk (.list ds) (.int (-1)) d
  | tup {ds : List D} {i : Int} {d : D} : 0 ≤ i → i < 2 ^ 62 → ds[i.toNat]? = some d → ItemOk (.tup ds) (.int i) d
  | map {g : Int → Option Int} {n : Nat} {i j : Int} : g i = some j → ItemOk (.map g n) (.int i) (.int j)

theorem item_get {M : Model} {prog : Program} {w : World} (hM : M = model prog w) {B : Around} {E : Value → Shared → Prop} {s : Shared} {N N₂ : Addr → Prop} {value slice : Expr} {o i : Value} {d di r : D} {Q : Value → Shared → Prop} (x : Is c N s.heap o d) (y : Is c N₂ s.heap i di) (h : ItemOk d di r)
    (k : ∀ v tk, Is c N s.heap v r → Q v { s with toks := tk }) : wpAny M B (subscriptTail value slice o i) Q E s := by
  subst hM
  cases h with
  | list h0 h1 hd =>
    obtain ⟨t, rfl⟩ := y.invInt
    obtain ⟨a, vs, rfl, hl, n, r⟩ := x.invList
    refine subTail rfl hl.typeIs slot_list_getitem.lookup ?_
    obtain ⟨hk, hd'⟩ := List.getElem?_eq_some_iff.mp hd
    obtain ⟨v, hv, iv⟩ := r.get hk
    rw [hd'] at iv
    exact wpAny_getItem_list hl h0 (by lia) (by simpa using hv) (k v s.toks iv)
  | @last ds d h0 h1 hd =>
    obtain ⟨t, rfl⟩ := y.invInt
    obtain ⟨a, vs, rfl, hl, n, r⟩ := x.invList
    refine subTail rfl hl.typeIs slot_list_getitem.lookup ?_
    have hlen := r.length
    have hpos : 0 < ds.length := List.length_pos_iff.mpr h0
    rw [List.getLast?_eq_getElem?] at hd
    obtain ⟨hk, hd'⟩ := List.getElem?_eq_some_iff.mp hd
    obtain ⟨v, hv, iv⟩ := r.get hk
    rw [hd'] at iv
    refine wpAny_getItem_list_neg hl (by decide) (by simp only [List.size_toArray]; lia) (by decide) ?_ (k v s.toks iv)
    have e : ((-1 : Int) + (vs.toArray.size : Int)).toNat = ds.length - 1 := by simp only [List.size_toArray]; lia
    rw [e]; simpa using hv
  | @tup ds i d h0 h1 hd =>
    obtain ⟨t, rfl⟩ := y.invInt
    obtain ⟨a, vs, rfl, ht, n, r⟩ := x.invTup
    refine subTail rfl ht.typeIs slot_tuple_getitem.lookup ?_
    obtain ⟨hk, hd'⟩ := List.getElem?_eq_some_iff.mp hd
    obtain ⟨v, hv, iv⟩ := r.get hk
    rw [hd'] at iv
    have hlen := r.length
    refine PyProof.Rows.getItem_tuple (j := i.toNat) ht (by lia) (by lia) ?_ (by simpa using hv) (k v s.toks iv)
    unfold seqIndex?
    have a1 : ¬ (i < 0) := by lia
    have a2 : i < (vs.toArray.size : Int) := by simp only [List.size_toArray]; lia
    simp only [a1, if_false]
    simp [h0, a2]
    lia
  | @map g _ i j hg =>
    obtain ⟨t, rfl⟩ := y.invInt
    obtain ⟨a, f, rfl, hm, _, n, hv⟩ := x.invMap
    refine subTail rfl hm.typeIs slot_dict_getitem.lookup ?_
    have q := hv i
    rw [hg] at q
    cases hf : f i with
    | none => rw [hf] at q; exact q.elim
    | some v =>
      rw [hf] at q
      cases v <;> first | exact q.elim | skip
      rename_i z tz
      have q' : z = j := q
      subst q'
      exact wpAny_getItem_intMap hm hf (k _ _ (.int _ _))

theorem Ev.item {e₁ e₂ : Expr} {pos : Pos} (h : Ev c F l st e₁ fun d₁ st₁ => Ev c F false st₁ e₂ fun d₂ st₂ => ∃ r, ItemOk d₁ d₂ r ∧ Post r st₂) : Ev c F l st (.Subscript e₁ e₂ pos) Post := by
  intro A P ow m s Q E X k
  refine PyProof.Rows.Subscript_ (two h X fun v₁ v₂ d₁ d₂ n s' p X' i₁ i₂ e => ?_)
  obtain ⟨r, hr, p⟩ := p
  exact item_get rfl i₁ i₂ hr fun v tk iv => k v r n _ p (X'.tok tk) iv e
/-- an item of a flat kind: from a list that we hold weakly -/
theorem Ev.itemFlat {e₁ e₂ : Expr} {pos : Pos} (h : Ev c F false st e₁ fun d₁ st₁ => Ev c F false st₁ e₂ fun d₂ st₂ => ∃ r, ItemOk d₁ d₂ r ∧ r.flat = true ∧ Post r st₂) : Ev c F l st (.Subscript e₁ e₂ pos) Post := by
  intro A P ow m s Q E X k
  refine PyProof.Rows.Subscript_ (two h X fun v₁ v₂ d₁ d₂ n s' p X' i₁ i₂ e => ?_)
  obtain ⟨r, hr, hf, p⟩ := p
  exact item_get rfl i₁ i₂ hr fun v tk iv => k v r n _ p (X'.tok tk) (iv.flat hf) e

theorem IsAll.pickRun {N : Addr → Prop} {h : Heap} {vs : List Value} {ds : List D} (x : IsAll c N h vs ds) (a b : Nat) : IsAll c N h ((vs.drop a).take b) ((ds.drop a).take b) := (x.drop a).take b

theorem pick_upto (items : Array Value) {y : Int} (h : 0 ≤ y) : slicePick items none (some y) none = (items.toList.take y.toNat).toArray := by
  have e : sliceBounds none (some y) none items.size = (((0 : Nat) : Int), ((min y.toNat items.size : Nat) : Int), 1) := by
    simp only [sliceBounds, Option.getD_none, show (1 : Int) > 0 by decide, if_true, if_neg (show ¬ (y < 0) by lia)]
    congr 1
    congr 1
    lia
  rw [kmk_pick_nat _ e]
  simp only [List.drop_zero, Nat.sub_zero]
  rw [show items.size = items.toList.length by simp, kmk_take_min]
theorem pick_run2 (items : Array Value) {x y : Int} (h : 0 ≤ x) (h2 : 0 ≤ y) : slicePick items (some x) (some y) none = ((items.toList.drop x.toNat).take (min y.toNat items.size - x.toNat)).toArray := by
  have e : sliceBounds (some x) (some y) none items.size = (((min x.toNat items.size : Nat) : Int), ((min y.toNat items.size : Nat) : Int), 1) := by
    simp only [sliceBounds, Option.getD_none, show (1 : Int) > 0 by decide, if_true, if_neg (show ¬ (x < 0) by lia), if_neg (show ¬ (y < 0) by lia)]
    congr 1
    · lia
    congr 1
    lia
  rw [kmk_pick_nat _ e]
  congr 1
  rw [show items.size = items.toList.length by simp, kmk_drop_min]
  by_cases q : x.toNat ≤ items.toList.length
  · rw [Nat.min_eq_left q]
  · rw [List.drop_of_length_le (by lia)]; simp

/-- a slice's parts -/
theorem partIs {N : Addr → Prop} {h : Heap} {v : Value} {i : Int} (x : Is c N h v (.int i)) : IsPart v (some i) := by cases x; exact .int _ _

theorem slice_new {A P : Addr → Prop} {ow : Addr} {m : Str → Option Value} {s : Shared} {Q : Value → Shared → Prop} {E : Value → Shared → Prop} {value slice : Expr} {a : Addr} {vs : List Value} {ds : List D} {lo hi sp : Option Int} {vl vu vp : Value} {n : Nat} (X : Core c F A P { st with tb := n } s ow m)
    (hl : s.heap.IsList a vs.toArray) (r : IsAll c (Av F l A st ow) s.heap vs ds) (h1 : IsPart vl lo) (h2 : IsPart vu hi) (h3 : IsPart vp sp) (h0 : sp ≠ some 0) (hsz : ds.length ≤ 1000000)
    (ws : List Value) (es : List D) (hw : slicePick vs.toArray lo hi sp = ws.toArray) (hi' : IsAll c (Av F l A st ow) s.heap ws es)
    (k : ∀ v s', Core c F A P { st with tb := n } s' ow m → Is c (Av F l A st ow) s'.heap v (.list es) → Ext1 c s.heap s'.heap → Q v s') :
    wpAny (model c.prog c.w) F.A (subscriptTail value slice (.ref a) (.ref s.heap.objs.size)) Q E { s with heap := s.heap.push { cls := .type "slice", data := .fields #[vl, vu, vp] } } := by
  have hl' : (s.heap.push { cls := .type "slice", data := .fields #[vl, vu, vp] }).IsList a vs.toArray := hl.at fun o e => Heap.get?_push_of_some _ e
  refine subTail rfl (Heap.IsList.typeIs (s := { s with heap := _ }) hl') slot_list_getitem.lookup ?_
  have rl := r.length
  refine wpAny_getItem_list_slice hl' ⟨_, Heap.get?_push_size _ rfl, rfl, rfl⟩ h1 h2 h3 h0 ?_ (by simp only [List.size_toArray]; rw [sizeLine_eq]; lia)
  rw [hw]
  have X1 := X.keep (tk := s.toks) (push_keep { cls := .type "slice", data := .fields #[vl, vu, vp] })
  have X2 := X1.keep (tk := s.toks) (push_keep { cls := .type "list", data := .seq ws.toArray })
  refine k _ _ X2 (.list ⟨_, Heap.get?_push_size _ rfl, rfl, _, rfl⟩ ?_ (hi'.ext fun a o e nn => ⟨push_keep _ _ _ (push_keep _ _ _ e), nn⟩)) ((Ext1.push _).trans (Ext1.push _))
  exact Is.newN (st := { st with tb := n }) X1

theorem Ev.sliceTo {e₁ e₂ : Expr} {p pos : Pos} (h : Ev c F l st e₁ fun d₁ st₁ => Ev c F false st₁ e₂ fun d₂ st₂ => ∃ ds i, d₁ = .list ds ∧ d₂ = .int i ∧ 0 ≤ i ∧ ds.length ≤ 1000000 ∧ Post (.list (ds.take i.toNat)) st₂) :
    Ev c F l st (.Subscript e₁ (.Slice Option.none (some e₂) Option.none p) pos) Post := by
  intro A P ow m s Q E X k
  refine PyProof.Rows.Subscript_ (h A P ow m s _ E X fun v₁ d₁ n₁ s₁ p₁ X₁ i₁ e₁ => ?_)
  refine wpAny_Slice ?_
  rw [evalPart_none, evalPart_some]
  refine wpAny_pure (p₁ A P ow m s₁ _ E X₁ fun v₂ d₂ n₂ s₂ p₂ X₂ i₂ e₂ => wpAny_pure ?_)
  obtain ⟨ds, i, rfl, rfl, h0, hsz, pp⟩ := p₂
  have i₁' := i₁.ext1 e₂ (X.Avdk _)
  obtain ⟨a, vs, rfl, hl, n, r⟩ := i₁'.invList
  refine slice_new (l := l) (st := st) X₂ hl r .none (partIs i₂) .none (by simp) hsz (vs.take i.toNat) (ds.take i.toNat) (by rw [pick_upto _ h0]) (r.take _) fun v s' X' iv e => ?_
  exact k v _ n₂ s' pp X' iv ((e₁.trans e₂).trans e)
theorem Ev.sliceRun {e₁ e₂ e₃ : Expr} {p pos : Pos} (h : Ev c F l st e₁ fun d₁ st₁ => Ev c F false st₁ e₂ fun d₂ st₂ => Ev c F false st₂ e₃ fun d₃ st₃ => ∃ ds i j, d₁ = .list ds ∧ d₂ = .int i ∧ d₃ = .int j ∧ 0 ≤ i ∧ 0 ≤ j ∧ ds.length ≤ 1000000 ∧ Post (.list ((ds.drop i.toNat).take (min j.toNat ds.length - i.toNat))) st₃) :
    Ev c F l st (.Subscript e₁ (.Slice (some e₂) (some e₃) Option.none p) pos) Post := by
  intro A P ow m s Q E X k
  refine PyProof.Rows.Subscript_ (h A P ow m s _ E X fun v₁ d₁ n₁ s₁ p₁ X₁ i₁ e₁ => ?_)
  refine wpAny_Slice ?_
  rw [evalPart_none, evalPart_some, evalPart_some]
  refine p₁ A P ow m s₁ _ E X₁ fun v₂ d₂ n₂ s₂ p₂ X₂ i₂ e₂ => ?_
  refine p₂ A P ow m s₂ _ E X₂ fun v₃ d₃ n₃ s₃ p₃ X₃ i₃ e₃ => wpAny_pure ?_
  obtain ⟨ds, i, j, rfl, rfl, rfl, h0, h1, hsz, pp⟩ := p₃
  have i₁' := (i₁.ext1 e₂ (X.Avdk _)).ext1 e₃ (X.Avdk _)
  have i₂' := i₂.ext1 e₃ (X.Avdk _)
  obtain ⟨a, vs, rfl, hl, n, r⟩ := i₁'.invList
  have rl := r.length
  refine slice_new (l := l) (st := st) X₃ hl r (partIs i₂') (partIs i₃) .none (by simp) hsz ((vs.drop i.toNat).take (min j.toNat vs.length - i.toNat)) ((ds.drop i.toNat).take (min j.toNat ds.length - i.toNat)) (by rw [pick_run2 _ h0 h1]; simp) (by rw [← rl]; exact r.pickRun _ _) fun v s' X' iv e => ?_
  exact k v _ n₃ s' pp X' iv (((e₁.trans e₂).trans e₃).trans e)
theorem Ev.sliceRev {e₁ e₂ : Expr} {p pos : Pos} (h : Ev c F l st e₁ fun d₁ st₁ => Ev c F false st₁ e₂ fun d₂ st₂ => ∃ ds, d₁ = .list ds ∧ d₂ = .int (-1) ∧ ds.length ≤ 1000000 ∧ Post (.list ds.reverse) st₂) :
    Ev c F l st (.Subscript e₁ (.Slice Option.none Option.none (some e₂) p) pos) Post := by
  intro A P ow m s Q E X k
  refine PyProof.Rows.Subscript_ (h A P ow m s _ E X fun v₁ d₁ n₁ s₁ p₁ X₁ i₁ e₁ => ?_)
  refine wpAny_Slice ?_
  rw [evalPart_none, evalPart_some]
  refine wpAny_pure (wpAny_pure (p₁ A P ow m s₁ _ E X₁ fun v₂ d₂ n₂ s₂ p₂ X₂ i₂ e₂ => ?_))
  obtain ⟨ds, rfl, rfl, hsz, pp⟩ := p₂
  have i₁' := i₁.ext1 e₂ (X.Avdk _)
  obtain ⟨a, vs, rfl, hl, n, r⟩ := i₁'.invList
  refine slice_new (l := l) (st := st) X₂ hl r .none .none (partIs i₂) (by decide) hsz vs.reverse ds.reverse (by rw [krv_pick]) r.reverse fun v s' X' iv e => ?_
  exact k v _ n₂ s' pp X' iv ((e₁.trans e₂).trans e)
end
end Mine

set_option maxRecDepth 100000
namespace Mine
open PySem PySem.W PyProof.Rows PySem.Calls

section
variable {c : Cx} {F : Fm} {l l' : Bool} {st : St} {Post : D → St → Prop}

/-- a value called upon data -/
noncomputable def CallV (c : Cx) (F : Fm) (l l' : Bool) (st : St) (f : Value) (ds : List D) (Post : D → St → Prop) : Prop :=
  ∀ (A P : Addr → Prop) (ow : Addr) (m : Str → Option Value) (s : Shared) (vs : List Value) (Q : Value → Shared → Prop) (E : Value → Shared → Prop), Core c F A P st s ow m → IsAll c (Av F l' A st ow) s.heap vs ds →
    (∀ v d n s', Post d { st with tb := n } → Core c F A P { st with tb := n } s' ow m → Is c (Av F l A st ow) s'.heap v d → Ext1 c s.heap s'.heap → Q v s') → wpAny (model c.prog c.w) F.A (call f vs) Q E s

/-- a built-in function called by its name -/
theorem Ev.callB {x : Str} {id : String} {e : Expr} {es : List Expr} {p pos : Pos} (hx : F.names.lookup x = some .globalImplicit) (hg : c.mg x = Option.none) (hb : bootBuiltins x = some (.builtin id)) (hn : x ≠ "__name__")
    (h : EvL c F l' st (e :: es) fun ds st₁ => CallV c F l l' st₁ (.builtin id) ds Post) (hd : (x == ("__debug__" : Str)) = false := by decide) (he : starEach (e :: es) F.env = (false, eval e F.env) :: starEach es F.env := by rfl)
    (hp : (backTo pos (starEach es F.env)).any (·.1) = false := by rfl) : Ev c F l st (.Call (.Name x p) (e :: es) [] pos) Post := by
  intro A P ow m s Q E X k
  refine PyProof.Rows.Call_ (bname X hx hg hb hn ?_ hd)
  have h' := h A P ow m s (fun vs s' => wpAny (model c.prog c.w) F.A (call (.builtin id) vs) Q E s') E pos X fun vs ds n s' p' X' i e' => p' A P ow m s' vs Q E X' i fun v d n₂ s₂ p₂ X₂ i₂ e₂ => k v d n₂ s₂ p₂ X₂ i₂ (e'.trans e₂)
  rw [he] at h' ⊢
  exact Calls.callWith_builtin (by show ((false, eval e F.env) :: backTo pos (starEach es F.env)).any (·.1) = false; rw [List.any_cons, hp]; rfl) (Calls.evalArgs_plain (wpAny_mono h' (fun vs s₁ h₁ => by simpa using h₁) fun _ _ x => x))
theorem Ev.callT {x : Str} {T : String} {e : Expr} {es : List Expr} {p pos : Pos} (hx : F.names.lookup x = some .globalImplicit) (hg : c.mg x = Option.none) (hb : bootBuiltins x = some (.type T)) (hn : x ≠ "__name__")
    (h : EvL c F l' st (e :: es) fun ds st₁ => CallV c F l l' st₁ (.type T) ds Post) (hd : (x == ("__debug__" : Str)) = false := by decide) (he : starEach (e :: es) F.env = (false, eval e F.env) :: starEach es F.env := by rfl)
    (hp : (backTo pos (starEach es F.env)).any (·.1) = false := by rfl) : Ev c F l st (.Call (.Name x p) (e :: es) [] pos) Post := by
  intro A P ow m s Q E X k
  refine PyProof.Rows.Call_ (bname X hx hg hb hn ?_ hd)
  have h' := h A P ow m s (fun vs s' => wpAny (model c.prog c.w) F.A (call (.type T) vs) Q E s') E pos X fun vs ds n s' p' X' i e' => p' A P ow m s' vs Q E X' i fun v d n₂ s₂ p₂ X₂ i₂ e₂ => k v d n₂ s₂ p₂ X₂ i₂ (e'.trans e₂)
  exact PyProof.Rows.callWith_type1 h' he hp

/-- a def of the text -/
structure FnAt (c : Cx) (x : Str) (a : Addr) (params : Arguments) (body : List Stmt) (scope : Scope) : Prop where
  mg : c.mg x = some (.ref a)
  at_ : ∃ o pm code doc, c.H0.get? a = some o ∧ o.data = .func (docDef x params body scope pm code doc) ∧ c.H0.CodeRec code x

theorem Core.Avdc {A P : Addr → Prop} {ow : Addr} {m : Str → Option Value} {s : Shared} (X : Core c F A P st s ow m) (l : Bool) : ¬ Av F l A st ow c.dc := by
  obtain ⟨t, tk, vs, _, _, _, ⟨o, ho, _, n, hd⟩, _⟩ := X.mid.deck
  rintro (h | ⟨_, h⟩)
  · exact X.Adc h
  · rcases h with h | ⟨x, h⟩ | ⟨h, h'⟩
    · obtain ⟨o2, es, ep, h3, h4, _⟩ := X.ns
      rw [← h, ho] at h3; cases h3; rw [hd] at h4; cases h4
    · obtain ⟨v, o2, h3, h4⟩ := X.ocells _ _ h
      rw [ho] at h3; cases h3; rw [hd] at h4; cases h4
    · obtain ⟨⟨i, d⟩, hq⟩ := Option.isSome_iff_exists.mp h
      obtain ⟨_, _, _, _, _, _, hne⟩ := X.ovar i d hq
      exact hne h'.symm

theorem Ev.callF {x : Str} {a : Addr} {params : Arguments} {body : List Stmt} {scope : Scope} {e : Expr} {es : List Expr} {p pos : Pos} (hx : F.names.lookup x = some .globalImplicit) (hf : FnAt c x a params body scope)
    (h : EvL c F l st (e :: es) fun ds st₁ => ∃ k b T, Fn c a k b ds T ∧ k ≤ F.k ∧ st₁.tb + b ≤ maxT ∧ ∀ d, T d → Post d { st₁ with tb := st₁.tb + b }) (hd : (x == ("__debug__" : Str)) = false := by decide)
    (he : starEach (e :: es) F.env = (false, eval e F.env) :: starEach es F.env := by rfl) : Ev c F l st (.Call (.Name x p) (e :: es) [] pos) Post := by
  intro A P ow m s Q E X k
  refine PyProof.Rows.Call_ (gname X hx hf.mg ?_ hd)
  obtain ⟨o, pm, code, doc, ho, hdat, hc⟩ := hf.at_
  refine PyProof.Rows.callWith_meth (h₀ := c.H0) hdat ho ?_ he
  refine h A P ow m s _ E pos X fun vs ds n s' p' X' i e' => ⟨fun b o e => X'.mid.base b o e, ?_⟩
  obtain ⟨kk, b, T, hF, hk, hb, hT⟩ := p'
  have r := X'.wf.room
  refine hF F.A (Av F l A st ow) _ _ _ Q E ⟨r.1, by have := r.2.1; lia, by have := r.2.2; lia⟩ hb X'.mid (X.Avdk _) (X.Avdc _) (fun a ha => ?_) (by simpa using i) fun v d s'' hd hm ex iv => ?_
  · rcases ha with ha | ⟨_, ha⟩
    · exact X'.Alt a ha
    · rcases ha with ha | ⟨y, ha⟩ | ⟨ha, ha'⟩
      · obtain ⟨o, _, _, h1, _⟩ := X'.ns; exact ⟨o, ha ▸ h1⟩
      · obtain ⟨v, o, h1, _⟩ := X'.ocells y a ha; exact ⟨o, h1⟩
      · obtain ⟨⟨j, d⟩, hq⟩ := Option.isSome_iff_exists.mp ha
        obtain ⟨_, ho, _⟩ := X'.ovar j d hq
        rw [← ha'] at ho
        cases ho with
        | list hl _ _ => obtain ⟨o, h1, _⟩ := hl; exact ⟨o, h1⟩
        | map hm _ _ => obtain ⟨o, _, _, h1, _⟩ := hm; exact ⟨o, h1⟩
  · have X'' := X'.step (h' := s''.heap) (tk := s''.toks) ex hm.deck
    have es : s'' = { s' with heap := s''.heap, toks := s''.toks } := by rw [hm.glob, X'.mid.glob]
    rw [← es] at X''
    exact k v d _ s'' (hT d hd) X'' iv (e'.trans ex)

theorem CallV.len {ds : List D} (hsz : ds.length ≤ 1000000) (h : Post (.int ds.length) st) : CallV c F l l' st (.builtin "len") [.list ds] Post := by
  intro A P ow m s vs Q E X i k
  cases i with | cons i r =>
  cases r
  obtain ⟨a, vs, rfl, hl, n, r⟩ := i.invList
  have e := r.length
  refine Calls.call_len_list hl (by simp only [List.size_toArray]; lia) ?_
  have e2 : (vs.toArray.size : Int) = ds.length := by simp only [List.size_toArray]; lia
  rw [e2]
  exact k _ _ st.tb _ h (X.tok _) (.int _ _) Ext1.refl
theorem CallV.intBool {b : Bool} (h : Post (.int (if b then 1 else 0)) st) : CallV c F l l' st (.type "int") [.bool b] Post := by
  intro A P ow m s vs Q E X i k
  cases i with | cons i r =>
  cases r; cases i
  exact PySem.call_int_bool (k _ _ st.tb _ h (X.tok _) (.int _ _) Ext1.refl)

theorem IsAll.bools {N : Addr → Prop} {h : Heap} {vs : List Value} {bs : List Bool} (x : IsAll c N h vs (bs.map .bool)) : LSm.BoolsAre vs bs := by
  induction vs generalizing bs with
  | nil => cases bs with | nil => exact .nil | cons => cases x
  | cons v vs ih =>
    cases bs with
    | nil => cases x
    | cons b bs => cases x with | cons a r => cases a; exact .cons b (ih r)
theorem IsAll.ints {N : Addr → Prop} {h : Heap} {vs : List Value} {ns : List Int} (x : IsAll c N h vs (ns.map .int)) : IntsAre vs ns := by
  induction vs generalizing ns with
  | nil => cases ns with | nil => exact .nil | cons => cases x
  | cons v vs ih =>
    cases ns with
    | nil => cases x
    | cons b bs => cases x with | cons a r => cases a; exact .cons b _ (ih r)
theorem IsAll.ofInts {N : Addr → Prop} {h : Heap} {vs : List Value} {ns : List Int} (x : IntsAre vs ns) : IsAll c N h vs (ns.map .int) := by
  induction x with
  | nil => exact .nil
  | cons n t _ ih => exact .cons (.int n t) ih

theorem CallV.all {bs : List Bool} (h : Post (.bool (bs.all id)) st) : CallV c F l l' st (.builtin "all") [.list (bs.map .bool)] Post := by
  intro A P ow m s vs Q E X i k
  cases i with | cons i r =>
  cases r
  obtain ⟨a, vs, rfl, hl, n, r⟩ := i.invList
  have hb := r.bools
  have hlt : a < s.heap.objs.size := by obtain ⟨_, e, _⟩ := hl; exact Heap.lt_size e
  have hh := X.wf.room.1
  refine call_all_walk (wpAny_pyIter_list hl ?_)
  refine ⟨s.heap.objs.size, [s.heap.objs.size, a], [s.heap.objs.size], vs.toArray.size, _, _, fun i => (bs[i]?).getD true, rfl, Walks.list (A := F.A.in1) hh _ a (Nat.ne_of_lt hlt) vs.toArray,
    ⟨⟨_, Heap.get?_push_size _ rfl, rfl, rfl⟩, hl.push _⟩, fun i v s' Q' E' hP hQ => ?_, fun h' tk hk => ?_⟩
  · obtain ⟨b, e, rfl⟩ := hb.get i v (by simpa using hP)
    simp only [e, Option.getD_some] at hQ
    exact wpAny_truthy_bool hQ
  · have e : ((List.range vs.toArray.size).all fun i => (bs[i]?).getD true) = bs.all id := by
      rw [List.size_toArray, hb.length]; exact LSm.range_all bs
    rw [e]
    have kk := LSm.kept_iter hk
    exact k _ _ st.tb _ h (X.keep kk) (.bool _) (.of_keep kk)

theorem CallV.min {ns : List Int} (hne : ns ≠ []) (h : ∀ M, M ∈ ns → (∀ a ∈ ns, M ≤ a) → Post (.int M) st) : CallV c F l l' st (.builtin "min") [.list (ns.map .int)] Post := by
  intro A P ow m s vs Q E X i k
  cases i with | cons i r =>
  cases r
  obtain ⟨a, vs, rfl, hl, n, r⟩ := i.invList
  have hi := r.ints
  obtain ⟨xs, e⟩ := hi.allInts.items
  have hns : ns = xs.toList.map (·.1) := by
    rw [← hi.numsOf, ← nums_intItems, ← e]
  have hsz : 0 < xs.size := by
    have h3 : 0 < ns.length := List.length_pos_iff.mpr hne
    rw [hns, List.length_map, Array.length_toList] at h3; exact h3
  rw [e] at hl
  refine min_intList X.wf.room.1 hl hsz fun v h' tk hv hk => ?_
  obtain ⟨t, rfl⟩ := intItems_at hv
  obtain ⟨h1, h2⟩ := argBest_lt (numAt xs) (xs.size - 1)
  refine k _ _ st.tb _ (h (numAt xs (argBest (fun i j => decide (numAt xs i < numAt xs j)) (xs.size - 1))) ?_ fun a ha => ?_) (X.keep hk) (.int _ _) (.of_keep hk)
  · rw [hns, numAt_eq]; exact getD_mem (by rw [List.length_map, Array.length_toList]; lia)
  · rw [hns] at ha
    obtain ⟨j, hj, rfl⟩ := mem_getD ha
    rw [List.length_map, Array.length_toList] at hj
    rw [← numAt_eq]; exact h2 j (by lia)
theorem CallV.max {ns : List Int} (hne : ns ≠ []) (h : ∀ M, M ∈ ns → (∀ a ∈ ns, a ≤ M) → Post (.int M) st) : CallV c F l l' st (.builtin "max") [.list (ns.map .int)] Post := by
  intro A P ow m s vs Q E X i k
  cases i with | cons i r =>
  cases r
  obtain ⟨a, vs, rfl, hl, n, r⟩ := i.invList
  have hi := r.ints
  obtain ⟨xs, e⟩ := hi.allInts.items
  have hns : ns = xs.toList.map (·.1) := by
    rw [← hi.numsOf, ← nums_intItems, ← e]
  have hsz : 0 < xs.size := by
    have h3 : 0 < ns.length := List.length_pos_iff.mpr hne
    rw [hns, List.length_map, Array.length_toList] at h3; exact h3
  rw [e] at hl
  refine max_intList X.wf.room.1 hl hsz fun v h' tk hv hk => ?_
  obtain ⟨t, rfl⟩ := intItems_at hv
  obtain ⟨h1, h2⟩ := argBest_gt (numAt xs) (xs.size - 1)
  refine k _ _ st.tb _ (h (numAt xs (argBest (fun i j => decide (numAt xs i > numAt xs j)) (xs.size - 1))) ?_ fun a ha => ?_) (X.keep hk) (.int _ _) (.of_keep hk)
  · rw [hns, numAt_eq]; exact getD_mem (by rw [List.length_map, Array.length_toList]; lia)
  · rw [hns] at ha
    obtain ⟨j, hj, rfl⟩ := mem_getD ha
    rw [List.length_map, Array.length_toList] at hj
    rw [← numAt_eq]; exact h2 j (by lia)

theorem CallV.list {ds : List D} (hsz : ds.length ≤ 1000000) (h : Post (.list ds) st) : CallV c F l l st (.type "list") [.list ds] Post := by
  intro A P ow m s vs Q E X i k
  cases i with | cons i r =>
  cases r
  obtain ⟨a, vs, rfl, hl, n, r⟩ := i.invList
  obtain ⟨o, ho, hc, nn, hd⟩ := hl
  have e := r.length
  refine call_list_seq (hsz := by simp only [List.size_toArray]; rw [sizeLine_eq]; lia) a (.inl rfl) ho hc hd fun h' c' hk hD => ?_
  exact k _ _ st.tb { s with heap := h' } h (X.keep (tk := s.toks) hk) (.list ⟨_, hD, rfl, _, rfl⟩ (Is.newN X) (r.ext fun a o e nn => ⟨hk _ _ e, nn⟩)) (.of_keep hk)
end
end Mine

set_option maxRecDepth 100000
namespace Mine
open PySem PySem.W PyProof.Rows PySem.Calls

noncomputable def SlotStep (F : Fm) (h h' : Heap) : Prop := ∀ a o, h.get? a = some o → a ≠ F.env.locals → (∀ y, (y, a) ∉ F.own) → h'.get? a = some o
theorem SlotStep.trans {F h₁ h₂ h₃} (x : SlotStep F h₁ h₂) (y : SlotStep F h₂ h₃) : SlotStep F h₁ h₃ := fun a o e n q => y a o (x a o e n q) n q

section
variable {c : Cx} {F : Fm} {A P : Addr → Prop} {st : St} {s : Shared} {ow : Addr} {m : Str → Option Value}

theorem SlotStep.is {N : Addr → Prop} {h h' : Heap} (k : SlotStep F h h') (hN : ∀ a, (a = F.env.locals ∨ ∃ x, (x, a) ∈ F.own) → N a) {v d} (i : Is c N h v d) : Is c N h' v d :=
  i.ext fun a o e n => ⟨k a o e (fun q => n (hN a (.inl q))) (fun y q => n (hN a (.inr ⟨y, q⟩))), n⟩
theorem SlotStep.keep (X : Core c F A P st s ow m) {h' : Heap} (k : SlotStep F s.heap h') : Keep P s.heap h' := fun a o p e => k a o e (fun q => X.PM a p (.inl q)) (fun y q => X.PM a p (.inr (.inl ⟨y, q⟩)))

/-- fewer facts -/
theorem Core.weak (X : Core c F A P st s ow m) {vars : List (Option D)} {own : Option (Nat × D)} (hv : ∀ (i : Nat) (d : D), vars[i]? = some (some d) → st.vars[i]? = some (some d)) (ho : own = st.own ∨ own = Option.none) : Core c F A P { st with vars := vars, own := own } s ow m := by
  have hM : ∀ a, Mm F { st with vars := vars, own := own } ow a → Mm F st ow a := by
    rintro a (h | h | ⟨h, h'⟩)
    · exact .inl h
    · exact .inr (.inl h)
    · rcases ho with rfl | rfl
      · exact .inr (.inr ⟨h, h'⟩)
      · cases h
  have hH : ∀ {x k v}, Holds c F st ow s.heap m x k v → Holds c F { st with vars := vars, own := own } ow s.heap m x k v := by
    intro x k v h
    rcases h with h | ⟨hk, cl, a, b, h⟩
    · exact .inl h
    · refine .inr ⟨hk, cl, a, b, ?_⟩
      rcases h with h | h
      · exact .inl h
      · exact .inr ⟨fun q => h.1 (hM _ q), h.2⟩
  refine ⟨X.wf, X.mid, X.ns, X.cells, X.Adk, X.Adc, X.Pdk, X.Alt, X.Plt, fun a p q => X.PM a p (hM a q), fun i d hi => ?_, fun i d hi => ?_⟩
  · obtain ⟨x, k, v, hn, hh, hi'⟩ := X.var i d (hv i d hi)
    exact ⟨x, k, v, hn, hH hh, hi'.mono fun a q => q.elim .inl fun q => .inr (hM a q)⟩
  · rcases ho with rfl | rfl
    · obtain ⟨⟨x, k, hn, hh⟩, hobj, r⟩ := X.ovar i d hi
      exact ⟨⟨x, k, hn, hH hh⟩, hobj.ext (fun _ e => e) (fun a o e n => ⟨e, fun q => n (q.elim .inl fun q => .inr (hM a q))⟩), r⟩
    · cases hi

theorem nodup_idx {α : Type} : ∀ {l : List α} {i j : Nat} {x : α}, l.Nodup → l[i]? = some x → l[j]? = some x → i = j
  | [], _, _, _, _, h, _ => by simp at h
  | y :: l, 0, 0, _, _, _, _ => rfl
  | y :: l, 0, j + 1, x, hn, h1, h2 => by
    simp at h1; subst h1
    exact absurd (List.mem_of_getElem? (by simpa using h2)) (List.nodup_cons.mp hn).1
  | y :: l, i + 1, 0, x, hn, h1, h2 => by
    simp at h2; subst h2
    exact absurd (List.mem_of_getElem? (by simpa using h1)) (List.nodup_cons.mp hn).1
  | y :: l, i + 1, j + 1, x, hn, h1, h2 => by
    have := nodup_idx (List.nodup_cons.mp hn).2 (by simpa using h1) (by simpa using h2)
    lia
theorem Wf.nameNe (w : Wf c F) {i j : Nat} {x y : Str} {k k' : NameKind} (hi : F.names[i]? = some (x, k)) (hj : F.names[j]? = some (y, k')) (hne : j ≠ i) : y ≠ x := by
  intro e; subst e
  exact hne (nodup_idx w.nodup (by rw [List.getElem?_map, hj]; rfl) (by rw [List.getElem?_map, hi]; rfl))

/-- a write to a slot's address -/
theorem Core.write (X : Core c F A P st s ow m) {w : Addr} {h' : Heap} {tk : Nat} {m' : Str → Option Value} (hw : w = F.env.locals ∨ ∃ x, (x, w) ∈ F.own) (hs : Heap.SameBut w s.heap h') (hnl : ∀ its, ¬ s.heap.IsList w its) (hown : ∀ i d, st.own = some (i, d) → ow ≠ w)
    (hex : ∃ o, h'.get? w = some o) (hns : h'.Ns F.env.locals m') (hoc : ∀ y a, F.env.cells.lookup y = some a → ∃ v, h'.IsCell a v)
    (hv : ∀ (i : Nat) (d : D) y k v, st.vars[i]? = some (some d) → F.names[i]? = some (y, k) → Holds c F st ow s.heap m y k v → Holds c F st ow h' m' y k v)
    (ho : ∀ (i : Nat) (d : D) y k v, st.own = some (i, d) → F.names[i]? = some (y, k) → Holds c F st ow s.heap m y k v → Holds c F st ow h' m' y k v) :
    Core c F A P st { s with heap := h', toks := tk } ow m' ∧ SlotStep F s.heap h' := by
  have hlow : c.H0.get? w = none := by rcases hw with rfl | ⟨x, hx⟩; exact X.wf.Llow; exact (X.wf.olow _ _ hx).1
  have hdk : w ≠ c.dk := by rcases hw with rfl | ⟨x, hx⟩; exact X.wf.Ldk; exact (X.wf.olow _ _ hx).2.2
  have hM : Mm F st ow w := by rcases hw with rfl | ⟨x, hx⟩; exact .inl rfl; exact .inr (.inl ⟨x, hx⟩)
  have keepNe : ∀ a o, a ≠ w → s.heap.get? a = some o → h'.get? a = some o := fun a o n e => (hs.2 a n).trans e
  have step : SlotStep F s.heap h' := fun a o e n q => keepNe a o (fun z => by
    rcases hw with hw | ⟨x, hx⟩
    · exact n (z.trans hw)
    · exact q x (z ▸ hx)) e
  have ex : ∀ a, (∃ o, s.heap.get? a = some o) → ∃ o, h'.get? a = some o := fun a ⟨o, e⟩ => by
    by_cases q : a = w
    · subst q; exact hex
    · exact ⟨o, keepNe a o q e⟩
  have kN : ∀ {N : Addr → Prop}, N w → ∀ a o, s.heap.get? a = some o → ¬ N a → h'.get? a = some o ∧ ¬ N a := fun hN a o e n => ⟨keepNe a o (fun q => n (q ▸ hN)) e, n⟩
  refine ⟨⟨X.wf, ⟨fun a o e => keepNe a o (fun q => by rw [q, hlow] at e; cases e) (X.mid.base a o e), by rw [X.mid.glob], ?_⟩, hns, hoc, X.Adk, X.Adc, X.Pdk, fun a ha => ex a (X.Alt a ha), fun a ha => ex a (X.Plt a ha), X.PM, ?_, ?_⟩, step⟩
  · obtain ⟨t, tk, vs, h0, h1, ⟨o, hh, hr⟩, ⟨o2, ho2, hr2⟩, hi, hn⟩ := X.mid.deck
    exact ⟨t, tk, vs, h0, h1, ⟨o, keepNe _ _ (Ne.symm hdk) hh, hr⟩, ⟨o2, keepNe _ _ (fun q => hnl vs.toArray (q ▸ ⟨o2, ho2, hr2⟩)) ho2, hr2⟩, hi, hn⟩
  · intro i d hi
    obtain ⟨y, k, v, hn, hh, iv⟩ := X.var i d hi
    exact ⟨y, k, v, hn, hv i d y k v hi hn hh, iv.ext (kN (.inr hM))⟩
  · intro i d hi
    obtain ⟨⟨y, k, hn, hh⟩, hobj, r⟩ := X.ovar i d hi
    exact ⟨⟨y, k, hn, ho i d y k _ hi hn hh⟩, hobj.ext (fun o e => keepNe _ o (hown i d hi) e) (kN (.inr hM)), r⟩

/-- the writing of a slot that nothing is told of -/
theorem store_raw {i : Nat} {x : Str} {k : NameKind} {v : Value} {Q : Unit → Shared → Prop} {E : Value → Shared → Prop} (X : Core c F A P st s ow m) (hn : F.names[i]? = some (x, k)) (hk : k = .local ∨ (k = .cell ∧ ∃ cl, (x, cl) ∈ F.own))
    (hv : ∀ d, st.vars[i]? ≠ some (some d)) (ho : ∀ d, st.own ≠ some (i, d))
    (h : ∀ h' tk m', Core c F A P st { s with heap := h', toks := tk } ow m' → Holds c F st ow h' m' x k v → SlotStep F s.heap h' → Q () { s with heap := h', toks := tk }) : wpAny (model c.prog c.w) F.A (storeName F.env x v) Q E s := by
  have hkind := X.wf.kindOf hn
  have other : ∀ {j : Nat} {y k'} {d : D}, st.vars[j]? = some (some d) → F.names[j]? = some (y, k') → y ≠ x := fun hj hy => X.wf.nameNe hn hy fun e => hv _ (e ▸ hj)
  have otherO : ∀ {j : Nat} {y k'} {d : D}, st.own = some (j, d) → F.names[j]? = some (y, k') → y ≠ x := fun hj hy => X.wf.nameNe hn hy fun e => ho _ (e ▸ hj)
  have owNe : ∀ {j : Nat} {d : D}, st.own = some (j, d) → ow ≠ F.env.locals ∧ ∀ y, (y, ow) ∉ F.own := fun hj => by
    obtain ⟨_, _, _, a, b, _⟩ := X.ovar _ _ hj; exact ⟨a, b⟩
  rcases hk with rfl | ⟨rfl, cl, hcl⟩
  · refine wpAny_storeName_local hkind X.ns (fun h' hns hs => ?_) (by rw [X.wf.kind]; rfl)
    have move : ∀ y k v', y ≠ x → Holds c F st ow s.heap m y k v' → Holds c F st ow h' (fun z => if z = x then some v else m z) y k v' := by
      intro y k v' hne hh
      rcases hh with ⟨hk, hm⟩ | ⟨hkk, cl, hc, ⟨o, hco, hcd⟩, hr⟩
      · exact .inl ⟨hk, by simp [hne, hm]⟩
      · refine .inr ⟨hkk, cl, hc, ⟨o, (hs.2 cl ?_).trans hco, hcd⟩, hr⟩
        rcases hr with hr | hr
        · exact (X.wf.olow _ _ hr.2).2.1
        · exact fun q => hr.1 (.inl q)
    have hnl : ∀ its, ¬ s.heap.IsList F.env.locals its := by
      rintro its ⟨o, h1, _, n, h2⟩
      obtain ⟨o2, es, ep, h3, h4, _⟩ := X.ns
      rw [h1] at h3; cases h3; rw [h2] at h4; cases h4
    have hoc : ∀ y a, F.env.cells.lookup y = some a → ∃ v, h'.IsCell a v := by
      intro y a hy
      obtain ⟨v', o, e, hd⟩ := X.cells y a hy
      refine ⟨v', o, (hs.2 a (fun q => ?_)).trans e, hd⟩
      obtain ⟨o2, es, ep, h3, h4, _⟩ := X.ns
      rw [q, h3] at e; cases e; rw [h4] at hd; cases hd
    obtain ⟨X', st'⟩ := X.write (tk := s.toks + 1) (m' := fun z => if z = x then some v else m z) (.inl rfl) hs hnl (fun j d hj => (owNe hj).1) (by obtain ⟨o, _, _, e, _⟩ := hns; exact ⟨o, e⟩) hns hoc
      (fun j d y k v' hj hy hh => move y k v' (other hj hy) hh) (fun j d y k v' hj hy hh => move y k v' (otherO hj hy) hh)
    exact h h' _ _ X' (.inl ⟨rfl, by simp⟩) st'
  · obtain ⟨v0, hv0⟩ := X.ocells _ _ hcl
    refine wpAny_storeName_cell X.wf.kind hkind (X.wf.ocell _ _ hcl) hv0 fun h' hc' hs => ?_
    have move : ∀ y k v', y ≠ x → Holds c F st ow s.heap m y k v' → Holds c F st ow h' m y k v' := by
      intro y k v' hne hh
      rcases hh with ⟨hk, hm⟩ | ⟨hkk, cl', hc, ⟨o, hco, hcd⟩, hr⟩
      · exact .inl ⟨hk, hm⟩
      · refine .inr ⟨hkk, cl', hc, ⟨o, (hs.2 cl' ?_).trans hco, hcd⟩, hr⟩
        rcases hr with hr | hr
        · exact fun q => hne (X.wf.oapart _ _ _ hr.2 (q ▸ hcl))
        · exact fun q => hr.1 (.inr (.inl ⟨x, q ▸ hcl⟩))
    have hnl : ∀ its, ¬ s.heap.IsList cl its := by
      rintro its ⟨o, h1, _, n, h2⟩
      obtain ⟨o2, h3, h4⟩ := hv0
      rw [h1] at h3; cases h3; rw [h2] at h4; cases h4
    have hoc : ∀ y a, F.env.cells.lookup y = some a → ∃ v, h'.IsCell a v := by
      intro y a hy
      by_cases q : a = cl
      · subst q; exact ⟨_, hc'⟩
      · obtain ⟨v', o, e, hd⟩ := X.cells y a hy
        exact ⟨v', o, (hs.2 a q).trans e, hd⟩
    obtain ⟨X', st'⟩ := X.write (tk := s.toks) (m' := m) (.inr ⟨x, hcl⟩) hs hnl (fun j d hj q => (owNe hj).2 x (q ▸ hcl)) (by obtain ⟨o, e, _⟩ := hc'; exact ⟨o, e⟩) (X.ns.sameBut hs (Ne.symm (X.wf.olow _ _ hcl).2.1)) hoc
      (fun j d y k v' hj hy hh => move y k v' (other hj hy) hh) (fun j d y k v' hj hy hh => move y k v' (otherO hj hy) hh)
    exact h h' _ _ X' (.inr ⟨.inl rfl, cl, X.wf.ocell _ _ hcl, hc', .inl ⟨rfl, hcl⟩⟩) st'
end
end Mine

set_option maxRecDepth 100000
namespace Mine
open PySem PySem.W PyProof.Rows PySem.Calls

noncomputable def slotOf : List (Str × NameKind) → Str → Option (Nat × NameKind)
  | [], _ => none
  | (y, k) :: ns, x => if y == x then some (0, k) else (slotOf ns x).map fun p => (p.1 + 1, p.2)
theorem slotOf_get : ∀ {ns : List (Str × NameKind)} {x : Str} {i : Nat} {k : NameKind}, slotOf ns x = some (i, k) → ns[i]? = some (x, k)
  | [], _, _, _, h => by simp [slotOf] at h
  | (y, k') :: ns, x, i, k, h => by
    unfold slotOf at h
    by_cases q : (y == x) = true
    · rw [if_pos q] at h; cases h; rw [beq_iff_eq.mp q]; rfl
    · rw [if_neg q] at h
      obtain ⟨⟨j, k2⟩, h1, h2⟩ := Option.map_eq_some_iff.mp h
      cases h2
      simpa using slotOf_get h1
noncomputable def canStore (F : Fm) (x : Str) (k : NameKind) : Bool := k == .local || (k == .cell && F.own.any (·.1 == x))
theorem canStore_of {F : Fm} {x : Str} {k : NameKind} (h : canStore F x k = true) : k = .local ∨ (k = .cell ∧ ∃ cl, (x, cl) ∈ F.own) := by
  unfold canStore at h
  rcases Bool.or_eq_true_iff.mp h with h | h
  · exact .inl (by simpa using h)
  · obtain ⟨h1, h2⟩ := Bool.and_eq_true_iff.mp h
    obtain ⟨⟨y, cl⟩, h3, h4⟩ := List.any_eq_true.mp h2
    exact .inr ⟨by simpa using h1, cl, (beq_iff_eq.mp h4 : y = x) ▸ h3⟩
noncomputable def ownAt (st : St) : Option Nat := st.own.map (·.1)
@[reducible] noncomputable def St.setv (st : St) (i : Nat) (d : D) : St := { st with vars := st.vars.set i (some d) }

theorem Keep.of {P : Addr → Prop} {h h' : Heap} (k : ∀ a o, h.get? a = some o → h'.get? a = some o) : Keep P h h' := fun a o _ e => k a o e

section
variable {c : Cx} {F : Fm} {A P : Addr → Prop} {st : St} {s : Shared} {ow : Addr} {m : Str → Option Value} {N : St → Prop} {T : D → Nat → Prop}

theorem IsAll.inv1 {N : Addr → Prop} {h : Heap} {vs : List Value} {d : D} (x : IsAll c N h vs [d]) : ∃ v, vs = [v] ∧ Is c N h v d := by
  cases x with | cons a r =>
  cases r; exact ⟨_, rfl, a⟩
theorem IsAll.inv2 {N : Addr → Prop} {h : Heap} {vs : List Value} {d e : D} (x : IsAll c N h vs [d, e]) : ∃ v w, vs = [v, w] ∧ Is c N h v d ∧ Is c N h w e := by
  cases x with | cons a r =>
  obtain ⟨w, rfl, b⟩ := r.inv1; exact ⟨_, _, rfl, a, b⟩
theorem IsAll.inv3 {N : Addr → Prop} {h : Heap} {vs : List Value} {d e f : D} (x : IsAll c N h vs [d, e, f]) : ∃ v w u, vs = [v, w, u] ∧ Is c N h v d ∧ Is c N h w e ∧ Is c N h u f := by
  cases x with | cons a r =>
  obtain ⟨w, u, rfl, b, c⟩ := r.inv2; exact ⟨_, _, _, rfl, a, b, c⟩

theorem Core.addVar (X : Core c F A P st s ow m) {i : Nat} {x : Str} {k : NameKind} {v : Value} {d : D} (hn : F.names[i]? = some (x, k)) (hh : Holds c F st ow s.heap m x k v) (iv : Is c (fun a => A a ∨ Mm F st ow a) s.heap v d) :
    Core c F A P (st.setv i d) s ow m := by
  refine ⟨X.wf, X.mid, X.ns, X.cells, X.Adk, X.Adc, X.Pdk, X.Alt, X.Plt, X.PM, fun j d' hj => ?_, X.ovar⟩
  by_cases q : j = i
  · subst q
    have hl : j < st.vars.length := by
      have := (List.getElem?_eq_some_iff.mp hj).1
      simpa using this
    have e : (st.vars.set j (some d))[j]? = some (some d) := by simp [hl]
    rw [e] at hj; cases hj
    exact ⟨x, k, v, hn, hh, iv⟩
  · have e : (st.vars.set i (some d))[j]? = st.vars[j]? := by rw [List.getElem?_set]; simp [Ne.symm q]
    rw [e] at hj
    exact X.var j d' hj

theorem store_dat {i : Nat} {x : Str} {k : NameKind} {v : Value} {d : D} {Q : Unit → Shared → Prop} {E : Value → Shared → Prop} (X : Core c F A P st s ow m) (hn : F.names[i]? = some (x, k)) (hk : canStore F x k = true)
    (ho : (ownAt st == some i) = false) (iv : Is c (fun a => A a ∨ Mm F st ow a) s.heap v d)
    (h : ∀ h' tk m', Core c F A P (st.setv i d) { s with heap := h', toks := tk } ow m' → SlotStep F s.heap h' → Q () { s with heap := h', toks := tk }) : wpAny (model c.prog c.w) F.A (storeName F.env x v) Q E s := by
  have X1 := X.weak (vars := st.vars.set i Option.none) (own := st.own) (fun j d hj => by
    rw [List.getElem?_set] at hj
    split at hj
    · split at hj <;> cases hj
    · exact hj) (.inl rfl)
  refine store_raw X1 hn (canStore_of hk) (fun d hj => ?_) (fun d hj => ?_) fun h' tk m' X' hh step => h h' tk m' ?_ step
  · simp only [List.getElem?_set_self'] at hj
    cases hq : st.vars[i]? with
    | none => rw [hq] at hj; simp at hj
    | some _ => rw [hq] at hj; simp at hj
  · have e : ownAt st = some i := by unfold ownAt; rw [show st.own = some (i, d) from hj]; rfl
    rw [e] at ho; simp at ho
  · have := X'.addVar (d := d) hn hh (step.is (fun a q => .inr (q.elim .inl fun q => .inr (.inl q))) iv)
    simpa [St.setv] using this

/-- two expressions' cost is a turn bound: weaker bounds do -/
theorem Core.le (X : Core c F A P st s ow m) {n : Nat} (h : st.tb ≤ n) : Core c F A P { st with tb := n } s ow m :=
  ⟨X.wf, X.mid.le h, X.ns, X.cells, X.Adk, X.Adc, X.Pdk, X.Alt, X.Plt, X.PM, X.var, X.ovar⟩

theorem keep_of_ext1 (X : Core c F A P st s ow m) {h' : Heap} (e : Ext1 c s.heap h') : Keep P s.heap h' := fun a o p q => e a o q fun z => X.Pdk (z ▸ p)
theorem strong {h : Heap} {v : Value} {d : D} (i : Is c (Av F true A st ow) h v d) : Is c (fun a => A a ∨ Mm F st ow a) h v d := i.mono fun a q => q.elim .inl fun q => .inr ⟨rfl, q⟩

theorem Ex.nil (h : N st) : Ex c F st [] N T := fun A P ow m s Q E X kN kR => wpAny_execs_nil (kN st ow m s h X fun _ _ _ e => e)
theorem Ex.cons {t : Stmt} {ts : List Stmt} (h : Ex1 c F st t (fun st' => Ex c F st' ts N T) T) : Ex c F st (t :: ts) N T := by
  intro A P ow m s Q E X kN kR
  refine wpAny_execs_cons ?_
  refine h A P ow m s _ E X (fun st' ow' m' s' p X' kp => ?_) fun v d n s' p M kp iv => ?_
  · exact p A P ow' m' s' Q E X' (fun st2 ow2 m2 s2 p2 X2 kp2 => kN st2 ow2 m2 s2 p2 X2 (kp.trans kp2)) fun v d n s2 p2 M kp2 iv => kR v d n s2 p2 M (kp.trans kp2) iv
  · exact kR v d n s' p M kp iv
theorem Ex.mono {N' : St → Prop} {T' : D → Nat → Prop} {t : Sem Flow} (h : ExS c F st t N T) (hN : ∀ st, N st → N' st) (hT : ∀ d n, T d n → T' d n) : ExS c F st t N' T' :=
  fun A P ow m s Q E X kN kR => h A P ow m s Q E X (fun st' ow' m' s' p => kN st' ow' m' s' (hN _ p)) fun v d n s' p => kR v d n s' (hT _ _ p)
/-- fewer facts at the start -/
theorem Ex.weak {t : Sem Flow} {vars : List (Option D)} {n : Nat} (h : ExS c F { st with vars := vars, tb := n } t N T) (hv : ∀ (i : Nat) (d : D), vars[i]? = some (some d) → st.vars[i]? = some (some d)) (hn : st.tb ≤ n) : ExS c F st t N T := by
  intro A P ow m s Q E X kN kR
  exact h A P ow m s Q E ((X.weak (own := st.own) hv (.inl rfl)).le hn) kN kR

theorem Ex1.ret {e : Expr} {pos : Pos} (h : Ev c F false st e fun d st' => T d st'.tb) : Ex1 c F st (.Return (some e) pos) N T := by
  intro A P ow m s Q E X kN kR
  refine wpAny_Return_some (h A P ow m s _ E X fun v d n s' p X' i e' => ?_)
  exact kR v d n s' p X'.mid (keep_of_ext1 X e') (i.mono fun a q => .inl q)
theorem Ex1.retNone {e : Expr} {pos : Pos} (h : T .none st.tb) : Ex1 c F st (.Return (some (.Constant .none 0 pos)) pos) N T := Ex1.ret (Ev.none h)
theorem Ex1.ite {t : Expr} {b o : List Stmt} {pos : Pos} (h : Tst c F st t fun q st' => (q = true → Ex c F st' b N T) ∧ (q = false → Ex c F st' o N T)) : Ex1 c F st (.If t b o pos) N T := by
  intro A P ow m s Q E X kN kR
  refine wpAny_If (h A P ow m s _ E X fun q n s' p X' e' => ?_)
  have kp := keep_of_ext1 X e'
  cases q with
  | true => exact p.1 rfl A P ow m s' Q E X' (fun st2 ow2 m2 s2 p2 X2 kp2 => kN st2 ow2 m2 s2 p2 X2 (kp.trans kp2)) fun v d n s2 p2 M kp2 iv => kR v d n s2 p2 M (kp.trans kp2) iv
  | false => exact p.2 rfl A P ow m s' Q E X' (fun st2 ow2 m2 s2 p2 X2 kp2 => kN st2 ow2 m2 s2 p2 X2 (kp.trans kp2)) fun v d n s2 p2 M kp2 iv => kR v d n s2 p2 M (kp.trans kp2) iv

/-- x = e -/
theorem Ex1.assign {x : Str} {px pos : Pos} {e : Expr} {i : Nat} {k : NameKind} (hs : slotOf F.names x = some (i, k)) (hk : canStore F x k = true) (ho : (ownAt st == some i) = false)
    (h : Ev c F true st e fun d st' => N (st'.setv i d)) (hsw : swapsWith e (some (.Name x px)) pos.line F.env = pure false := by rfl) : Ex1 c F st (.Assign [.Name x px] e pos) N T := by
  intro A P ow m s Q E X kN kR
  refine wpAny_Assign_Name (h A P ow m s _ E X fun v d n s' p X' i' e' => ?_) hsw
  refine store_dat X' (slotOf_get hs) hk ho (strong i') fun h' tk m' X2 step => ?_
  exact kN _ ow m' _ p X2 ((keep_of_ext1 X e').trans (SlotStep.keep X' step))

/-- names of a tuple target -/
theorem unpack2 {x y : Str} {px py : Pos} {kk : Nat} {tp : Pos} {i j : Nat} {k k' : NameKind} {v : Value} {d e : D} {Q : Unit → Shared → Prop} {E : Value → Shared → Prop} (X : Core c F A P st s ow m) (iv : Is c (fun a => A a ∨ Mm F st ow a) s.heap v (.tup [d, e]))
    (hi : slotOf F.names x = some (i, k)) (hk : canStore F x k = true) (ho : (ownAt st == some i) = false) (hj : slotOf F.names y = some (j, k')) (hk' : canStore F y k' = true) (ho' : (ownAt st == some j) = false)
    (h : ∀ s' m', Core c F A P ((st.setv i d).setv j e) s' ow m' → Keep P s.heap s'.heap → Q () s') : wpAny (model c.prog c.w) F.A (assign (.Tuple [.Name x px, .Name y py] kk tp) F.env v) Q E s := by
  obtain ⟨a, vs, rfl, ht, _, r⟩ := iv.invTup
  obtain ⟨v1, v2, rfl, i1, i2⟩ := r.inv2
  refine PyProof.Rows.assign_Tuple_tuple X.wf.room.1 ht rfl rfl fun h1 hx => ?_
  have k1 : ∀ a o, s.heap.get? a = some o → h1.get? a = some o := fun a o e => hx a o (Nat.ne_of_lt (Heap.lt_size e)) e
  have X1 := X.keep (tk := s.toks) k1
  have t1 : ∀ {v d}, Is c (fun a => A a ∨ Mm F st ow a) s.heap v d → Is c (fun a => A a ∨ Mm F st ow a) h1 v d := fun q => q.ext fun a o e n => ⟨k1 a o e, n⟩
  show wpAny _ _ (do holding [v2] (assign (.Name x px) F.env v1); assignInOrder [assign (.Name y py) F.env] [v2]) _ _ _
  refine wpAny_bind (wpAny_holding (wpAny_assign_Name (store_dat X1 (slotOf_get hi) hk ho (t1 i1) fun h2 tk m2 X2 step => ?_)))
  show wpAny _ _ (do holding [] (assign (.Name y py) F.env v2); assignInOrder [] []) _ _ _
  refine wpAny_bind (wpAny_holding (wpAny_assign_Name (store_dat X2 (slotOf_get hj) hk' ho' (step.is (fun a q => .inr (q.elim .inl fun q => .inr (.inl q))) (t1 i2)) fun h3 tk3 m3 X3 step3 => ?_)))
  refine wpAny_pure (h _ m3 X3 ?_)
  exact ((Keep.of k1).trans (SlotStep.keep X1 step)).trans (SlotStep.keep X2 step3)
theorem unpack3 {x y z : Str} {px py pz : Pos} {kk : Nat} {tp : Pos} {i j l : Nat} {k k' k2 : NameKind} {v : Value} {d e f : D} {Q : Unit → Shared → Prop} {E : Value → Shared → Prop} (X : Core c F A P st s ow m) (iv : Is c (fun a => A a ∨ Mm F st ow a) s.heap v (.tup [d, e, f]))
    (hi : slotOf F.names x = some (i, k)) (hk : canStore F x k = true) (ho : (ownAt st == some i) = false) (hj : slotOf F.names y = some (j, k')) (hk' : canStore F y k' = true) (ho' : (ownAt st == some j) = false)
    (hl : slotOf F.names z = some (l, k2)) (hk2 : canStore F z k2 = true) (ho2 : (ownAt st == some l) = false)
    (h : ∀ s' m', Core c F A P (((st.setv i d).setv j e).setv l f) s' ow m' → Keep P s.heap s'.heap → Q () s') : wpAny (model c.prog c.w) F.A (assign (.Tuple [.Name x px, .Name y py, .Name z pz] kk tp) F.env v) Q E s := by
  obtain ⟨a, vs, rfl, ht, _, r⟩ := iv.invTup
  obtain ⟨v1, v2, v3, rfl, i1, i2, i3⟩ := r.inv3
  refine PyProof.Rows.assign_Tuple_tuple X.wf.room.1 ht rfl rfl fun h1 hx => ?_
  have k1 : ∀ a o, s.heap.get? a = some o → h1.get? a = some o := fun a o e => hx a o (Nat.ne_of_lt (Heap.lt_size e)) e
  have X1 := X.keep (tk := s.toks) k1
  have t1 : ∀ {v d}, Is c (fun a => A a ∨ Mm F st ow a) s.heap v d → Is c (fun a => A a ∨ Mm F st ow a) h1 v d := fun q => q.ext fun a o e n => ⟨k1 a o e, n⟩
  have sN : ∀ a, (a = F.env.locals ∨ ∃ x, (x, a) ∈ F.own) → (A a ∨ Mm F st ow a) := fun a q => .inr (q.elim .inl fun q => .inr (.inl q))
  show wpAny _ _ (do holding [v2, v3] (assign (.Name x px) F.env v1); assignInOrder [assign (.Name y py) F.env, assign (.Name z pz) F.env] [v2, v3]) _ _ _
  refine wpAny_bind (wpAny_holding (wpAny_assign_Name (store_dat X1 (slotOf_get hi) hk ho (t1 i1) fun h2 tk m2 X2 step => ?_)))
  show wpAny _ _ (do holding [v3] (assign (.Name y py) F.env v2); assignInOrder [assign (.Name z pz) F.env] [v3]) _ _ _
  refine wpAny_bind (wpAny_holding (wpAny_assign_Name (store_dat X2 (slotOf_get hj) hk' ho' (step.is sN (t1 i2)) fun h3 tk3 m3 X3 step3 => ?_)))
  show wpAny _ _ (do holding [] (assign (.Name z pz) F.env v3); assignInOrder [] []) _ _ _
  refine wpAny_bind (wpAny_holding (wpAny_assign_Name (store_dat X3 (slotOf_get hl) hk2 ho2 (step3.is sN (step.is sN (t1 i3))) fun h4 tk4 m4 X4 step4 => ?_)))
  refine wpAny_pure (h _ m4 X4 ?_)
  exact (((Keep.of k1).trans (SlotStep.keep X1 step)).trans (SlotStep.keep X2 step3)).trans (SlotStep.keep X3 step4)

/-- x, y = e (e no tuple display) -/
theorem Ex1.assign2 {x y : Str} {px py : Pos} {kk : Nat} {tp pos : Pos} {e : Expr} {i j : Nat} {k k' : NameKind}
    (hi : slotOf F.names x = some (i, k)) (hk : canStore F x k = true) (ho : (ownAt st == some i) = false) (hj : slotOf F.names y = some (j, k')) (hk' : canStore F y k' = true) (ho' : (ownAt st == some j) = false)
    (h : Ev c F true st e fun d st' => ∃ d1 d2, d = .tup [d1, d2] ∧ N ((st'.setv i d1).setv j d2))
    (hs : swapsWithSole [.Tuple [.Name x px, .Name y py] kk tp] e pos.line F.env = pure false := by rfl) (hw : swappedStores [.Tuple [.Name x px, .Name y py] kk tp] e F.env = pure none := by rfl) :
    Ex1 c F st (.Assign [.Tuple [.Name x px, .Name y py] kk tp] e pos) N T := by
  intro A P ow m s Q E X kN kR
  refine PyProof.Rows.Assign_Tuple (h A P ow m s _ E X fun v d n s' p X' iv e' => ?_) hs hw
  obtain ⟨d1, d2, rfl, p⟩ := p
  exact unpack2 X' (strong iv) hi hk ho hj hk' ho' fun s2 m2 X2 kp => kN _ ow m2 _ p X2 ((keep_of_ext1 X e').trans kp)
/-- x, y = e, f (stored in the other order) -/
theorem Ex1.swap2 {x y : Str} {px py : Pos} {kk : Nat} {tp pos : Pos} {e : Expr} {i j : Nat} {k k' : NameKind}
    (hi : slotOf F.names x = some (i, k)) (hk : canStore F x k = true) (ho : (ownAt st == some i) = false) (hj : slotOf F.names y = some (j, k')) (hk' : canStore F y k' = true) (ho' : (ownAt st == some j) = false)
    (h : Ev c F true st e fun d st' => ∃ d1 d2, d = .tup [d1, d2] ∧ N ((st'.setv j d2).setv i d1))
    (hs : swapsWithSole [.Tuple [.Name x px, .Name y py] kk tp] e pos.line F.env = pure false := by rfl) (hw : swappedStores [.Tuple [.Name x px, .Name y py] kk tp] e F.env = pure (some [x, y]) := by rfl) :
    Ex1 c F st (.Assign [.Tuple [.Name x px, .Name y py] kk tp] e pos) N T := by
  intro A P ow m s Q E X kN kR
  refine PyProof.Rows.Assign_Tuple_swapped (h A P ow m s _ E X fun v d n s' p X' iv e' => ?_) hs hw
  obtain ⟨d1, d2, rfl, p⟩ := p
  obtain ⟨a, vs, rfl, ht, _, r⟩ := (strong iv).invTup
  obtain ⟨v1, v2, rfl, i1, i2⟩ := r.inv2
  refine PyProof.Rows.unpackItems_tuple (items := [v1, v2].toArray) X.wf.room.1 ht fun h1 hx => ?_
  have k1 : ∀ a o, s'.heap.get? a = some o → h1.get? a = some o := fun a o e => hx a o (Nat.ne_of_lt (Heap.lt_size e)) e
  have X1 := X'.keep (tk := s'.toks) k1
  have t1 : ∀ {v d}, Is c (fun a => A a ∨ Mm F st ow a) s'.heap v d → Is c (fun a => A a ∨ Mm F st ow a) h1 v d := fun q => q.ext fun a o e n => ⟨k1 a o e, n⟩
  show wpAny _ _ (do holding [v1] (bindName F.env y v2); assignInOrder [fun v => bindName F.env x v] [v1]) _ _ _
  refine wpAny_bind (wpAny_holding (PyProof.Rows.bindName_ (store_dat X1 (slotOf_get hj) hk' ho' (t1 i2) fun h2 tk m2 X2 step => ?_)))
  show wpAny _ _ (do holding [] (bindName F.env x v1); assignInOrder [] []) _ _ _
  refine wpAny_bind (wpAny_holding (PyProof.Rows.bindName_ (store_dat X2 (slotOf_get hi) hk ho (step.is (fun a q => .inr (q.elim .inl fun q => .inr (.inl q))) (t1 i1)) fun h3 tk3 m3 X3 step3 => ?_)))
  refine wpAny_pure (kN _ ow m3 _ p X3 ?_)
  exact (((keep_of_ext1 X e').trans (Keep.of k1)).trans (SlotStep.keep X1 step)).trans (SlotStep.keep X2 step3)

/-- x -= e -/
theorem Ex1.isub {x : Str} {px pos : Pos} {e : Expr} {i : Nat} {k : NameKind} {a : Int} (hs : slotOf F.names x = some (i, k)) (hk : canStore F x k = true) (ho : (ownAt st == some i) = false) (hx : st.vars[i]? = some (some (.int a)))
    (h : Ev c F false st e fun d st' => ∃ b, d = .int b ∧ N (st'.setv i (.int (a - b)))) (hcd : (x == ("__classdict__" : Str)) = false := by decide) : Ex1 c F st (.AugAssign (.Name x px) .Sub e pos) N T := by
  intro A P ow m s Q E X kN kR
  obtain ⟨y, k', v, hn', hh, hi⟩ := X.var i _ hx
  have hn := slotOf_get hs
  rw [hn] at hn'; cases hn'
  obtain ⟨t, rfl⟩ := hi.invInt
  refine wpAny_AugAssign_Name (load_holds X hn hh ?_ hcd)
  refine h A P ow m s _ E X fun v d n s' p X' iv e' => ?_
  obtain ⟨b, rfl, p⟩ := p
  obtain ⟨u, rfl⟩ := iv.invInt
  refine PyProof.Rows.isub_int ?_
  refine store_dat (X'.tok _) hn hk ho (.int _ _) fun h' tk m' X2 step => ?_
  exact kN _ ow m' _ p X2 ((keep_of_ext1 X e').trans (SlotStep.keep (X'.tok _) step))
theorem Ex1.iadd {x : Str} {px pos : Pos} {e : Expr} {i : Nat} {k : NameKind} {a : Int} (hs : slotOf F.names x = some (i, k)) (hk : canStore F x k = true) (ho : (ownAt st == some i) = false) (hx : st.vars[i]? = some (some (.int a)))
    (h : Ev c F false st e fun d st' => ∃ b, d = .int b ∧ N (st'.setv i (.int (a + b)))) (hcd : (x == ("__classdict__" : Str)) = false := by decide) : Ex1 c F st (.AugAssign (.Name x px) .Add e pos) N T := by
  intro A P ow m s Q E X kN kR
  obtain ⟨y, k', v, hn', hh, hi⟩ := X.var i _ hx
  have hn := slotOf_get hs
  rw [hn] at hn'; cases hn'
  obtain ⟨t, rfl⟩ := hi.invInt
  refine wpAny_AugAssign_Name (load_holds X hn hh ?_ hcd)
  refine h A P ow m s _ E X fun v d n s' p X' iv e' => ?_
  obtain ⟨b, rfl, p⟩ := p
  obtain ⟨u, rfl⟩ := iv.invInt
  refine PyProof.Rows.iadd_int ?_
  refine store_dat (X'.tok _) hn hk ho (.int _ _) fun h' tk m' X2 step => ?_
  exact kN _ ow m' _ p X2 ((keep_of_ext1 X e').trans (SlotStep.keep (X'.tok _) step))
end
end Mine

set_option maxRecDepth 100000
namespace Mine
open PySem PySem.W PyProof.Rows PySem.Calls

structure Wk (c : Cx) (B : Around) (tgt : Expr) (I : Addr) (fp wr : List Addr) (xs : List D) (Sn : Nat → Heap → Prop) (src : (Addr → Prop) → Heap → Prop) : Prop where
  frame : ∀ i h h', Sn i h → (∀ b ∈ fp, ∀ o, h.get? b = some o → h'.get? b = some o) → Sn i h'
  ex : ∀ i h, Sn i h → ∀ b ∈ wr, ∃ o, h.get? b = some o
  smono : ∀ (N N' : Addr → Prop) h h', src N h → (∀ a o, h.get? a = some o → ¬ N a → h'.get? a = some o ∧ ¬ N' a) → src N' h'
  step : ∀ i x (N : Addr → Prop) (s : Shared) (K : Value → Shared → Prop) (Rn : Shared → Prop) (E : Value → Shared → Prop), xs[i]? = some x → Sn i s.heap → src N s.heap → (∀ b ∈ wr, N b) → (∀ a, N a → ∃ o, s.heap.get? a = some o) →
    (∀ v h' tk, Sn (i + 1) h' → (∀ b o, b ∉ wr → s.heap.get? b = some o → h'.get? b = some o) → Is c N h' v x → K v { s with heap := h', toks := tk }) →
    wpAny (model c.prog c.w) B (pyNext (.ref I)) (fun r s₁ => match r with | none => Rn s₁ | some v => wpAny (model c.prog c.w) B (letOwnedTupleGo tgt (.ref I) v) (fun _ s₂ => K v s₂) E s₁) E s
  done : ∀ (s : Shared) (K : Value → Shared → Prop) (Rn : Shared → Prop) (E : Value → Shared → Prop), Sn xs.length s.heap →
    (∀ h' tk, (∀ b o, b ∉ wr → s.heap.get? b = some o → h'.get? b = some o) → Rn { s with heap := h', toks := tk }) →
    wpAny (model c.prog c.w) B (pyNext (.ref I)) (fun r s₁ => match r with | none => Rn s₁ | some v => wpAny (model c.prog c.w) B (letOwnedTupleGo tgt (.ref I) v) (fun _ s₂ => K v s₂) E s₁) E s
  self : ∀ i (s : Shared) (Q : Value → Shared → Prop) (E : Value → Shared → Prop), Sn i s.heap → Q (.ref I) s → wpAny (model c.prog c.w) B (pyIter (.ref I)) Q E s

noncomputable def quietIters : List String := ["list_iterator", "tuple_iterator", "range_iterator"]
theorem letOwned_quiet {prog : Program} {w : World} {B : Around} {E : Value → Shared → Prop} {s : Shared} {tgt : Expr} {I : Addr} {o : Obj} {n : String} {v : Value} {Q : Unit → Shared → Prop} (ho : s.heap.get? I = some o) (hc : o.cls = .type n)
    (hn : (["enumerate", "zip", "dict_itemiterator", "dict_reverseitemiterator", "odict_iterator", "itertools.zip_longest", "itertools.pairwise"].contains n) = false) (h : Q () s) : wpAny (model prog w) B (letOwnedTupleGo tgt (.ref I) v) Q E s := by
  have core : wpAny (model prog w) B (do
      let (.ref r, .ref a) := (Value.ref I, v) | return
      let o ← load r
      match o.cls, o.data with
      | .type n, .fields vs =>
        if ["enumerate", "zip", "dict_itemiterator", "dict_reverseitemiterator", "odict_iterator", "itertools.zip_longest", "itertools.pairwise"].contains n && vs[0]? == some (rawInt a) then
          rule "for.unpacks-the-owned-tuple"
          updateField r 0 .none
      | _, _ => pure () : Sem Unit) Q E s := by
    cases v <;> first | exact wpAny_pure h | skip
    rename_i a
    refine wpAny_bind (wpAny_load ho ?_)
    rw [hc]
    split
    · rename_i n' vs e1 e2
      cases e1
      rw [hn]
      exact wpAny_pure h
    · exact wpAny_pure h
  unfold letOwnedTupleGo
  split
  · exact core
  · exact core
  · exact wpAny_pure h

section
variable {c : Cx} {B : Around} {tgt : Expr}

theorem Wk.list (hh : B.handled = none) (I ax : Addr) (hne : ax ≠ I) (vs : List Value) (xs : List D) (hlen : vs.length = xs.length) :
    Wk c B tgt I [I, ax] [I] xs (fun i h => h.IsListIter I ax i ∧ h.IsList ax vs.toArray) (fun N h => IsAll c N h vs xs) := by
  have W := Walks.list (prog := c.prog) (w := c.w) hh I ax hne vs.toArray
  refine ⟨W.frame, fun i h hs b hb => ?_, fun N N' h h' x k => x.ext k, ?_, ?_, W.self⟩
  · obtain ⟨⟨o, ho, _⟩, _⟩ := hs
    simp at hb; subst hb; exact ⟨o, ho⟩
  · intro i x N s K Rn E hx hs hsrc hN _ hK
    have hi : i < vs.toArray.size := by simp only [List.size_toArray, hlen]; exact (List.getElem?_eq_some_iff.mp hx).1
    refine W.item i s _ E hi hs fun v h' tk hP hs' hk => ?_
    have hv : vs[i]? = some v := by simpa using hP
    obtain ⟨d, hd, iv⟩ := hsrc.get' hv
    rw [hx] at hd; cases hd
    obtain ⟨⟨o, ho, hc, _⟩, _⟩ := id hs'
    refine letOwned_quiet (s := { s with heap := h', toks := tk }) ho hc (by decide) (hK v h' tk hs' hk (iv.ext fun a o e n => ⟨hk a o (fun q => n (hN a q)) e, n⟩))
  · intro s K Rn E hs hR
    refine W.done s _ E (by simpa [hlen] using hs) fun h' tk hk => hR h' tk hk

theorem Wk.tuple (hh : B.handled = none) (I ax : Addr) (hne : ax ≠ I) (vs : List Value) (xs : List D) (hlen : vs.length = xs.length) :
    Wk c B tgt I [I, ax] [I] xs (fun i h => h.IsTupleIter I ax i ∧ h.IsTuple ax vs.toArray) (fun N h => IsAll c N h vs xs) := by
  have W := Walks.tuple (prog := c.prog) (w := c.w) hh I ax hne vs.toArray
  refine ⟨W.frame, fun i h hs b hb => ?_, fun N N' h h' x k => x.ext k, ?_, ?_, W.self⟩
  · obtain ⟨⟨o, ho, _⟩, _⟩ := hs
    simp at hb; subst hb; exact ⟨o, ho⟩
  · intro i x N s K Rn E hx hs hsrc hN _ hK
    have hi : i < vs.toArray.size := by simp only [List.size_toArray, hlen]; exact (List.getElem?_eq_some_iff.mp hx).1
    refine W.item i s _ E hi hs fun v h' tk hP hs' hk => ?_
    have hv : vs[i]? = some v := by simpa using hP
    obtain ⟨d, hd, iv⟩ := hsrc.get' hv
    rw [hx] at hd; cases hd
    obtain ⟨⟨o, ho, hc, _⟩, _⟩ := id hs'
    refine letOwned_quiet (s := { s with heap := h', toks := tk }) ho hc (by decide) (hK v h' tk hs' hk (iv.ext fun a o e n => ⟨hk a o (fun q => n (hN a q)) e, n⟩))
  · intro s K Rn E hs hR
    refine W.done s _ E (by simpa [hlen] using hs) fun h' tk hk => hR h' tk hk

/-- the ints from a on -/
noncomputable def intsD (a : Int) (n : Nat) : List D := (List.range n).map fun (i : Nat) => .int (a + (i : Int))
theorem intsD_length (a : Int) (n : Nat) : (intsD a n).length = n := by simp [intsD]
theorem intsD_get {a : Int} {n i : Nat} {x : D} (h : (intsD a n)[i]? = some x) : x = .int (a + i) := by
  unfold intsD at h
  rw [List.getElem?_map] at h
  obtain ⟨j, hj, rfl⟩ := Option.map_eq_some_iff.mp h
  have := (List.getElem?_eq_some_iff.mp hj)
  obtain ⟨hl, e⟩ := this
  simp at e; subst e; rfl
theorem Wk.range (hh : B.handled = none) (I : Addr) (a : Int) (n : Nat) :
    Wk c B tgt I [I] [I] (intsD a n) (fun i h => IsRangeIter h I (a + (i : Nat) * 1) ((n : Int) - (i : Nat)) 1) (fun _ _ => True) := by
  have W := Walks.range (prog := c.prog) (w := c.w) hh I a 1 n
  refine ⟨W.frame, fun i h hs b hb => ?_, fun _ _ _ _ _ _ => trivial, ?_, ?_, W.self⟩
  · simp at hb; subst hb; exact ⟨_, hs⟩
  · intro i x N s K Rn E hx hs hsrc hN _ hK
    have hi : i < n := by have := (List.getElem?_eq_some_iff.mp hx).1; rwa [intsD_length] at this
    refine W.item i s _ E hi hs fun v h' tk hP hs' hk => ?_
    obtain ⟨t, rfl⟩ := hP
    have e := intsD_get hx
    subst e
    refine letOwned_quiet (s := { s with heap := h', toks := tk }) hs' rfl (by decide) (hK _ h' tk hs' hk (by rw [Int.mul_one]; exact .int _ _))
  · intro s K Rn E hs hR
    exact W.done s _ E (by rw [intsD_length] at hs; exact hs) fun h' tk hk => hR h' tk hk

noncomputable def enums (xs : List D) : List D := xs.zipIdx.map fun p => .tup [.int p.2, p.1]
theorem enums_length (xs : List D) : (enums xs).length = xs.length := by simp [enums]
theorem enums_get {xs : List D} {i : Nat} {x : D} (h : (enums xs)[i]? = some x) : ∃ y, xs[i]? = some y ∧ x = .tup [.int i, y] := by
  unfold enums at h
  rw [List.getElem?_map] at h
  obtain ⟨⟨y, j⟩, hj, rfl⟩ := Option.map_eq_some_iff.mp h
  rw [List.getElem?_zipIdx] at hj
  obtain ⟨z, hz, e⟩ := Option.map_eq_some_iff.mp hj
  cases e
  exact ⟨_, hz, by simp⟩
theorem Wk.enum {elts : List Expr} {kk : Nat} {tp : Pos} (hh : B.handled = none) (e it l : Addr) (hei : e ≠ it) (hle : l ≠ e) (hli : l ≠ it) (vs : List Value) (xs : List D) (hlen : vs.length = xs.length) :
    Wk c B (.Tuple elts kk tp) e [e, it, l] [e, it] (enums xs) (fun i h => (∃ old, IsEnum h e it i old) ∧ h.IsListIter it l i ∧ h.IsList l vs.toArray) (fun N h => IsAll c N h vs xs) := by
  have W := WalksT.enumerate (prog := c.prog) (w := c.w) hh e it l hei hle hli vs.toArray
  refine ⟨W.frame, fun i h hs b hb => ?_, fun N N' h h' x k => x.ext k, ?_, ?_, W.self⟩
  · obtain ⟨⟨old, he⟩, ⟨o, ho, _⟩, _⟩ := hs
    rcases List.mem_cons.mp hb with rfl | hb
    · exact ⟨_, he⟩
    · simp at hb; subst hb; exact ⟨o, ho⟩
  · intro i x N s K Rn E hx hs hsrc hN hNex hK
    obtain ⟨y, hy, rfl⟩ := enums_get hx
    have hi : i < vs.toArray.size := by simp only [List.size_toArray, hlen]; exact (List.getElem?_eq_some_iff.mp hy).1
    refine W.item i s _ E hi hs fun T vals h' tk hP hT hTup hm hk => ?_
    obtain ⟨t, xv, hxv, rfl⟩ := hP
    have hv : vs[i]? = some xv := by simpa using hxv
    obtain ⟨d, hd, iv⟩ := hsrc.get' hv
    rw [hy] at hd; cases hd
    refine W.go elts kk tp i T { s with heap := h', toks := tk } _ E hm fun h'' hs'' hk' => ?_
    have hTN : ¬ N T := fun q => by
      obtain ⟨o, ho⟩ := hNex T q
      exact absurd (Heap.lt_size ho) (Nat.not_lt.mpr hT)
    have hTw := W.apart i T h' hm
    refine hK (.ref T) h'' tk hs'' (fun b o hb q => hk' b o hb (hk b o hb q)) (.tup (vs := [.int i t, xv]) ?_ hTN (.cons (.int _ _) (.cons ?_ .nil)))
    · obtain ⟨o, ho, r⟩ := hTup
      exact ⟨o, hk' T o hTw ho, r⟩
    · exact iv.ext fun a o q n => ⟨hk' a o (fun z => n (hN a z)) (hk a o (fun z => n (hN a z)) q), n⟩
  · intro s K Rn E hs hR
    refine W.done s _ E (by rw [enums_length] at hs; simpa [hlen] using hs) fun h' tk hk => hR h' tk hk
end
end Mine

set_option maxRecDepth 100000
namespace Mine
open PySem PySem.W PyProof.Rows PySem.Calls

section
variable {c : Cx} {F : Fm} {A P : Addr → Prop} {st : St} {s : Shared} {ow : Addr} {m : Str → Option Value} {N : St → Prop} {T : D → Nat → Prop}

/-- what lives is not fresh -/
theorem Core.Mex (X : Core c F A P st s ow m) {a : Addr} (h : Mm F st ow a) : ∃ o, s.heap.get? a = some o := by
  rcases h with h | ⟨y, h⟩ | ⟨h, h'⟩
  · obtain ⟨o, _, _, h1, _⟩ := X.ns; exact ⟨o, h ▸ h1⟩
  · obtain ⟨v, o, h1, _⟩ := X.ocells y a h; exact ⟨o, h1⟩
  · obtain ⟨⟨j, d⟩, hq⟩ := Option.isSome_iff_exists.mp h
    obtain ⟨_, ho, _⟩ := X.ovar j d hq
    rw [← h'] at ho
    cases ho with
    | list hl _ _ => obtain ⟨o, h1, _⟩ := hl; exact ⟨o, h1⟩
    | map hm _ _ => obtain ⟨o, _, _, h1, _⟩ := hm; exact ⟨o, h1⟩
theorem Core.dkex (X : Core c F A P st s ow m) : ∃ o, s.heap.get? c.dk = some o := by
  obtain ⟨_, _, _, _, _, ⟨o, ho, _⟩, _⟩ := X.mid.deck; exact ⟨o, ho⟩
theorem Core.dcex (X : Core c F A P st s ow m) : ∃ o, s.heap.get? c.dc = some o := by
  obtain ⟨_, _, _, _, _, _, ⟨o, ho, _⟩, _⟩ := X.mid.deck; exact ⟨o, ho⟩

/-- more is avoided (fresh things), more is guarded -/
theorem Core.more (X : Core c F A P st s ow m) {B R : Addr → Prop} {h' : Heap} {tk : Nat} (k : ∀ a o, s.heap.get? a = some o → h'.get? a = some o) (hB : ∀ a, B a → s.heap.get? a = none ∧ ∃ o, h'.get? a = some o)
    (hR : ∀ a, R a → ¬ Mm F st ow a ∧ a ≠ c.dk ∧ ∃ o, h'.get? a = some o) : Core c F (fun a => A a ∨ B a) (fun a => P a ∨ R a) st { s with heap := h', toks := tk } ow m := by
  have Y := X.keep (tk := tk) k
  have nB : ∀ {a o}, s.heap.get? a = some o → ¬ B a := fun e q => by rw [(hB _ q).1] at e; cases e
  have kN : ∀ a o, s.heap.get? a = some o → ¬ (A a ∨ Mm F st ow a) → h'.get? a = some o ∧ ¬ ((A a ∨ B a) ∨ Mm F st ow a) := fun a o e n => ⟨k a o e, fun q => by
    rcases q with (q | q) | q
    · exact n (.inl q)
    · exact nB e q
    · exact n (.inr q)⟩
  refine ⟨Y.wf, Y.mid, Y.ns, Y.cells, .inl Y.Adk, fun q => q.elim Y.Adc fun q => ?_, fun q => q.elim Y.Pdk fun q => (hR _ q).2.1 rfl, fun a q => q.elim (Y.Alt a) fun q => (hB a q).2, fun a q => q.elim (Y.Plt a) fun q => (hR a q).2.2,
    fun a q => q.elim (X.PM a) fun q => (hR a q).1, fun i d hi => ?_, fun i d hi => ?_⟩
  · obtain ⟨o, e⟩ := X.dcex; exact nB e q
  · obtain ⟨x, kk, v, hn, hh, iv⟩ := X.var i d hi
    obtain ⟨x', kk', v', hn', hh', iv'⟩ := Y.var i d hi
    refine ⟨x, kk, v, hn, ?_, iv.ext kN⟩
    rcases hh with hh | ⟨a1, cl, a2, ⟨o, e, e2⟩, a3⟩
    · exact .inl hh
    · exact .inr ⟨a1, cl, a2, ⟨o, k _ _ e, e2⟩, a3⟩
  · obtain ⟨⟨x, kk, hn, hh⟩, ho, h1, h2, h3, h4, h5⟩ := X.ovar i d hi
    obtain ⟨oo, hoo⟩ := X.Mex (a := ow) (.inr (.inr ⟨by rw [hi]; rfl, rfl⟩))
    refine ⟨⟨x, kk, hn, ?_⟩, ho.ext (fun o e => k _ _ e) kN, fun q => q.elim h1 (nB hoo), h2, h3, h4, h5⟩
    rcases hh with hh | ⟨a1, cl, a2, ⟨o, e, e2⟩, a3⟩
    · exact .inl hh
    · exact .inr ⟨a1, cl, a2, ⟨o, k _ _ e, e2⟩, a3⟩
theorem Core.less {A' P' : Addr → Prop} (X : Core c F A' P' st s ow m) (hA : ∀ a, A a → A' a) (hP : ∀ a, P a → P' a) (hdk : A c.dk) : Core c F A P st s ow m := by
  refine ⟨X.wf, X.mid, X.ns, X.cells, hdk, fun q => X.Adc (hA _ q), fun q => X.Pdk (hP _ q), fun a q => X.Alt a (hA a q), fun a q => X.Plt a (hP a q), fun a q => X.PM a (hP a q), fun i d hi => ?_, fun i d hi => ?_⟩
  · obtain ⟨x, kk, v, hn, hh, iv⟩ := X.var i d hi
    exact ⟨x, kk, v, hn, hh, iv.mono fun a q => q.imp (hA a) id⟩
  · obtain ⟨h0, ho, h1, r⟩ := X.ovar i d hi
    exact ⟨h0, ho.ext (fun _ e => e) (fun a o e n => ⟨e, fun q => n (q.imp (hA a) id)⟩), fun q => h1 (hA _ q), r⟩

noncomputable def Aw (A : Addr → Prop) (wr : List Addr) (a : Addr) : Prop := A a ∨ a ∈ wr
theorem Core.moreA (X : Core c F A P st s ow m) {wr : List Addr} {h' : Heap} {tk : Nat} (k : ∀ a o, s.heap.get? a = some o → h'.get? a = some o) (hB : ∀ a ∈ wr, s.heap.get? a = none ∧ ∃ o, h'.get? a = some o) :
    Core c F (Aw A wr) P st { s with heap := h', toks := tk } ow m :=
  (X.more (B := fun a => a ∈ wr) (R := fun _ => False) k hB (fun _ q => q.elim)).less (fun _ q => q) (fun _ q => .inl q) (.inl X.Adk)
/-- what is read before the iterator stands off it -/
theorem avoidW {h h' : Heap} {wr : List Addr} {lv : Bool} (k : ∀ a o, h.get? a = some o → h'.get? a = some o) (hB : ∀ a ∈ wr, h.get? a = none) : ∀ a o, h.get? a = some o → ¬ Av F lv A st ow a → h'.get? a = some o ∧ ¬ Av F lv (Aw A wr) st ow a :=
  fun a o e n => ⟨k a o e, fun q => by
    rcases q with (q | q) | q
    · exact n (.inl q)
    · rw [hB a q] at e; cases e
    · exact n (.inr q)⟩

/-- an iterable and its items; lv: strongly -/
noncomputable def It (c : Cx) (F : Fm) (st : St) (tgt e : Expr) (lv : Bool) (Post : List D → St → Prop) : Prop :=
  ∀ (A P : Addr → Prop) (ow : Addr) (m : Str → Option Value) (s : Shared) (Q : Value → Shared → Prop) (E : Value → Shared → Prop), Core c F A P st s ow m →
    (∀ xs n I fp wr Sn src s', Post xs { st with tb := n } → Core c F (Aw A wr) P { st with tb := n } s' ow m → Ext1 c s.heap s'.heap → Wk c F.A tgt I fp wr xs Sn src → Sn 0 s'.heap → src (Av F lv (Aw A wr) st ow) s'.heap →
      (∀ b ∈ wr, s.heap.get? b = none) → (∀ b ∈ fp, b ∈ wr ∨ ((∃ o, s'.heap.get? b = some o) ∧ ¬ Av F lv A st ow b)) → Q (.ref I) s') →
    wpAny (model c.prog c.w) F.A (eval e F.env) (fun x s₁ => wpAny (model c.prog c.w) F.A (pyIter x) Q E s₁) E s

theorem none_at {h : Heap} {n : Nat} (hn : h.objs.size ≤ n) : h.get? n = none := by
  cases e : h.get? n with
  | none => rfl
  | some o => exact absurd (Heap.lt_size e) (Nat.not_lt.mpr hn)
theorem none_before {h h' : Heap} {a : Addr} (hk : ∀ o, h.get? a = some o → ∃ o', h'.get? a = some o') (hn : h'.get? a = none) : h.get? a = none := by
  cases e : h.get? a with
  | none => rfl
  | some o => obtain ⟨o', e'⟩ := hk o e; rw [hn] at e'; cases e'
theorem fresh_before (X : Core c F A P st s ow m) {s' : Shared} {n : Nat} (X' : Core c F A P { st with tb := n } s' ow m) (e : Ext1 c s.heap s'.heap) {a : Addr} (hn : s'.heap.get? a = none) : s.heap.get? a = none := by
  refine none_before (fun o ho => ?_) hn
  by_cases q : a = c.dk
  · subst q; exact X'.dkex
  · exact ⟨o, e a o ho q⟩

theorem It.list {tgt e : Expr} {lv : Bool} {Post : List D → St → Prop} (h : Ev c F lv st e fun d st' => ∃ xs, d = .list xs ∧ Post xs st') : It c F st tgt e lv Post := by
  intro A P ow m s Q E X k
  refine h A P ow m s _ E X fun v d n s' p X' iv e' => ?_
  obtain ⟨xs, rfl, p⟩ := p
  obtain ⟨a, vs, rfl, hl, hN, r⟩ := iv.invList
  obtain ⟨o, ho, _⟩ := id hl
  have hne : a ≠ s'.heap.objs.size := Nat.ne_of_lt (Heap.lt_size ho)
  have keep := push_keep (h := s'.heap) { cls := .type "list_iterator", data := .fields #[.ref a, .int 0 0] }
  refine wpAny_pyIter_list hl (k xs n _ _ _ _ _ _ p (X'.moreA (wr := [s'.heap.objs.size]) (tk := s'.toks) keep ?_) (e'.trans (.of_keep keep)) (Wk.list X.wf.room.1 s'.heap.objs.size a hne vs xs r.length) ⟨⟨_, Heap.get?_push_size _ rfl, rfl, rfl⟩, hl.at fun o e => keep _ _ e⟩ ?_ ?_ ?_)
  · intro b hb; simp at hb; subst hb
    exact ⟨none_at (Nat.le_refl _), _, Heap.get?_push_size _ rfl⟩
  · exact r.ext (avoidW keep fun b hb => by simp at hb; subst hb; exact none_at (Nat.le_refl _))
  · intro b hb; simp at hb; subst hb
    exact fresh_before X X' e' (none_at (Nat.le_refl _))
  · intro b hb
    rcases List.mem_cons.mp hb with rfl | hb
    · exact .inl (.head _)
    · simp at hb; subst hb; exact .inr ⟨⟨o, keep _ _ ho⟩, hN⟩
theorem It.tup {tgt e : Expr} {lv : Bool} {Post : List D → St → Prop} (h : Ev c F lv st e fun d st' => ∃ xs, d = .tup xs ∧ Post xs st') : It c F st tgt e lv Post := by
  intro A P ow m s Q E X k
  refine h A P ow m s _ E X fun v d n s' p X' iv e' => ?_
  obtain ⟨xs, rfl, p⟩ := p
  obtain ⟨a, vs, rfl, hl, hN, r⟩ := iv.invTup
  obtain ⟨o, ho, _⟩ := id hl
  have hne : a ≠ s'.heap.objs.size := Nat.ne_of_lt (Heap.lt_size ho)
  have keep := push_keep (h := s'.heap) { cls := .type "tuple_iterator", data := .fields #[.ref a, .int 0 0] }
  have hl' : s'.heap.IsTuple a vs.toArray := hl
  refine wpAny_pyIter_tuple hl' (k xs n _ _ _ _ _ _ p (X'.moreA (wr := [s'.heap.objs.size]) (tk := s'.toks) keep ?_) (e'.trans (.of_keep keep)) (Wk.tuple X.wf.room.1 s'.heap.objs.size a hne vs xs r.length) ⟨⟨_, Heap.get?_push_size _ rfl, rfl, rfl⟩, hl'.at fun o e => keep _ _ e⟩ ?_ ?_ ?_)
  · intro b hb; simp at hb; subst hb
    exact ⟨none_at (Nat.le_refl _), _, Heap.get?_push_size _ rfl⟩
  · exact r.ext (avoidW keep fun b hb => by simp at hb; subst hb; exact none_at (Nat.le_refl _))
  · intro b hb; simp at hb; subst hb
    exact fresh_before X X' e' (none_at (Nat.le_refl _))
  · intro b hb
    rcases List.mem_cons.mp hb with rfl | hb
    · exact .inl (.head _)
    · simp at hb; subst hb; exact .inr ⟨⟨o, keep _ _ ho⟩, hN⟩

theorem rangeSmall {a b : Int} (ha : 0 ≤ a) (hb : b ≤ 1000000) (ha2 : a ≤ 1000000) (hb2 : -1000000 ≤ b) : Builtin.Range.small a b 1 = true ∧ Builtin.Range.rangeSize a b 1 = ((b - a).toNat : Nat) := by
  have hs : Builtin.Range.rangeSize a b 1 = ((b - a).toNat : Nat) := by
    unfold Builtin.Range.rangeSize
    simp
    lia
  refine ⟨?_, hs⟩
  unfold Builtin.Range.small
  rw [hs]
  unfold Builtin.Range.rangeFitsLong
  simp
  lia

theorem It.ofRange {tgt : Expr} {lv : Bool} {Post : List D → St → Prop} {Q : Value → Shared → Prop} {E : Value → Shared → Prop} {a b : Int} {t : Tok} {u v : Tok} {n : Nat} (X : Core c F A P { st with tb := n } s ow m) {s0 : Shared} {h' : Heap} {tk : Nat} (X0 : Core c F A P st s0 ow m) (e0 : Ext1 c s0.heap s.heap)
    (k1 : ∀ a o, s.heap.get? a = some o → h'.get? a = some o) (hr : IsRange h' s.heap.objs.size a b 1 t u v) (ha : 0 ≤ a) (hb : b ≤ 1000000) (ha2 : a ≤ 1000000) (hb2 : -1000000 ≤ b) (p : Post (intsD a (b - a).toNat) { st with tb := n })
    (k : ∀ xs n I fp wr Sn src s', Post xs { st with tb := n } → Core c F (Aw A wr) P { st with tb := n } s' ow m → Ext1 c s0.heap s'.heap → Wk c F.A tgt I fp wr xs Sn src → Sn 0 s'.heap → src (Av F lv (Aw A wr) st ow) s'.heap →
      (∀ b ∈ wr, s0.heap.get? b = none) → (∀ b ∈ fp, b ∈ wr ∨ ((∃ o, s'.heap.get? b = some o) ∧ ¬ Av F lv A st ow b)) → Q (.ref I) s') :
    wpAny (model c.prog c.w) F.A (pyIter (.ref s.heap.objs.size)) Q E { s with heap := h', toks := tk } := by
  obtain ⟨hsm, hsz⟩ := rangeSmall ha hb ha2 hb2
  have X' := X.keep (tk := tk) k1
  refine wpAny_pyIter_range (s := { s with heap := h', toks := tk }) hr hsm ?_
  have keep := push_keep (h := h') { cls := .type "range_iterator", data := .fields #[rawInt a, rawInt (Builtin.Range.rangeSize a b 1), rawInt 1] }
  refine k _ n _ _ _ _ _ _ p (X'.moreA (wr := [h'.objs.size]) (tk := tk) keep ?_) ((e0.trans (.of_keep k1)).trans (.of_keep keep)) (Wk.range X.wf.room.1 h'.objs.size a (b - a).toNat) ?_ trivial ?_ ?_
  · intro b hb; simp at hb; subst hb
    exact ⟨none_at (Nat.le_refl _), _, Heap.get?_push_size _ rfl⟩
  · show IsRangeIter _ _ _ _ _
    have := Heap.get?_push_size h' (o := { cls := .type "range_iterator", data := .fields #[rawInt a, rawInt (Builtin.Range.rangeSize a b 1), rawInt 1] }) rfl
    rw [hsz] at this ⊢
    simpa using this
  · intro b hb; simp at hb; subst hb
    exact fresh_before X0 X' (e0.trans (.of_keep k1)) (none_at (Nat.le_refl _))
  · intro b hb; exact .inl hb

theorem It.range1 {tgt e : Expr} {lv : Bool} {p pos : Pos} {Post : List D → St → Prop} (hx : F.names.lookup (Str.ofString "range") = some .globalImplicit)
    (h : Ev c F false st e fun d st' => ∃ b, d = .int b ∧ b ≤ 1000000 ∧ -1000000 ≤ b ∧ Post (intsD 0 b.toNat) st') (he : starEach [e] F.env = [(false, eval e F.env)] := by rfl) : It c F st tgt (.Call (.Name (Str.ofString "range") p) [e] [] pos) lv Post := by
  intro A P ow m s Q E X k
  refine PyProof.Rows.Call_ (bname X hx (c.miss _ (by decide)) PyProof.Rows.boot_range (by decide) ?_ (by decide))
  refine PyProof.Rows.callWith_type1 (spliced_more (h A P ow m s _ E X fun v d n s' pp X' iv e' => spliced_none ?_) he) he rfl
  obtain ⟨b, rfl, hb, hb2, pp⟩ := pp
  obtain ⟨t, rfl⟩ := iv.invInt
  refine call_range_1 ?_
  exact It.ofRange (st := st) X' X e' (push_keep _) (IsRange.new ..) (by decide) hb (by decide) hb2 (by simpa using pp) k
theorem It.range2 {tgt e₁ e₂ : Expr} {lv : Bool} {p pos : Pos} {Post : List D → St → Prop} (hx : F.names.lookup (Str.ofString "range") = some .globalImplicit)
    (h : Ev c F false st e₁ fun d₁ st₁ => Ev c F false st₁ e₂ fun d st' => ∃ a b, d₁ = .int a ∧ d = .int b ∧ 0 ≤ a ∧ a ≤ 1000000 ∧ b ≤ 1000000 ∧ -1000000 ≤ b ∧ Post (intsD a (b - a).toNat) st')
    (he : starEach [e₁, e₂] F.env = [(false, eval e₁ F.env), (false, eval e₂ F.env)] := by rfl) (he2 : starEach [e₂] F.env = [(false, eval e₂ F.env)] := by rfl) : It c F st tgt (.Call (.Name (Str.ofString "range") p) [e₁, e₂] [] pos) lv Post := by
  intro A P ow m s Q E X k
  refine PyProof.Rows.Call_ (bname X hx (c.miss _ (by decide)) PyProof.Rows.boot_range (by decide) ?_ (by decide))
  have he' : starEach (e₁ :: [e₂]) F.env = (false, eval e₁ F.env) :: starEach [e₂] F.env := by rw [he, he2]
  refine PyProof.Rows.callWith_type1 (spliced_more (h A P ow m s _ E X fun v₁ d₁ n₁ s₁ p₁ X₁ i₁ e1 => spliced_more (p₁ A P ow m s₁ _ E X₁ fun v d n s' pp X' iv e' => spliced_none ?_) he2) he') he' (by rw [he2]; rfl)
  obtain ⟨a, b, rfl, rfl, ha, ha2, hb, hb2, pp⟩ := pp
  obtain ⟨t, rfl⟩ := iv.invInt
  obtain ⟨t1, rfl⟩ := i₁.invInt
  refine call_range_2 ?_
  exact It.ofRange (st := st) X' X (e1.trans e') (push_keep _) (IsRange.new ..) ha hb ha2 hb2 pp k
theorem It.enum {e : Expr} {lv : Bool} {p pos : Pos} {elts : List Expr} {kk : Nat} {tp : Pos} {Post : List D → St → Prop} (hx : F.names.lookup (Str.ofString "enumerate") = some .globalImplicit)
    (h : Ev c F lv st e fun d st' => ∃ xs, d = .list xs ∧ Post (enums xs) st') (he : starEach [e] F.env = [(false, eval e F.env)] := by rfl) : It c F st (.Tuple elts kk tp) (.Call (.Name (Str.ofString "enumerate") p) [e] [] pos) lv Post := by
  intro A P ow m s Q E X k
  refine PyProof.Rows.Call_ (bname X hx (c.miss _ (by decide)) PyProof.Rows.boot_enumerate (by decide) ?_ (by decide))
  refine PyProof.Rows.callWith_type1 (spliced_more (h A P ow m s _ E X fun v d n s' pp X' iv e' => spliced_none ?_) he) he rfl
  obtain ⟨xs, rfl, pp⟩ := pp
  obtain ⟨a, vs, rfl, hl, hN, r⟩ := iv.invList
  obtain ⟨o, ho, _⟩ := id hl
  have hlt := Heap.lt_size ho
  refine call_enumerate_list hl fun h' hE hI hsz hk => ?_
  refine wpAny_pyIter_enum (s := { s' with heap := h' }) hE ?_
  have hfr : ∀ b ∈ [s'.heap.objs.size + 1, s'.heap.objs.size], s'.heap.get? b = none := by
    intro b hb
    rcases List.mem_cons.mp hb with rfl | hb
    · exact none_at (Nat.le_succ _)
    · simp at hb; subst hb; exact none_at (Nat.le_refl _)
  refine k _ n _ _ _ _ _ _ pp (X'.moreA (wr := [s'.heap.objs.size + 1, s'.heap.objs.size]) (tk := s'.toks) hk ?_) (e'.trans (.of_keep hk)) (Wk.enum X.wf.room.1 (s'.heap.objs.size + 1) s'.heap.objs.size a (Nat.succ_ne_self _) (Nat.ne_of_lt (Nat.lt_succ_of_lt hlt)) (Nat.ne_of_lt hlt) vs xs r.length) ⟨⟨_, hE⟩, hI, hl.at fun o e => hk _ _ e⟩ ?_ ?_ ?_
  · intro b hb
    refine ⟨hfr b hb, ?_⟩
    rcases List.mem_cons.mp hb with rfl | hb
    · exact ⟨_, hE⟩
    · simp at hb; subst hb; obtain ⟨o, e, _⟩ := hI; exact ⟨o, e⟩
  · exact r.ext (avoidW hk hfr)
  · intro b hb
    rcases List.mem_cons.mp hb with rfl | hb
    · exact fresh_before X X' e' (none_at (Nat.le_succ _))
    · simp at hb; subst hb; exact fresh_before X X' e' (none_at (Nat.le_refl _))
  · intro b hb
    rcases List.mem_cons.mp hb with rfl | hb
    · exact .inl (.head _)
    · rcases List.mem_cons.mp hb with rfl | hb
      · exact .inl (.tail _ (.head _))
      · simp at hb; subst hb; exact .inr ⟨⟨o, hk _ _ ho⟩, hN⟩

/-- one turn: the target is laid, the body is run -/
noncomputable def ExA (c : Cx) (F : Fm) (st : St) (tgt : Expr) (x : D) (body : List Stmt) (N : St → Prop) (T : D → Nat → Prop) : Prop :=
  ∀ (A P : Addr → Prop) (ow : Addr) (m : Str → Option Value) (s : Shared) (v : Value) (Q : Flow → Shared → Prop) (E : Value → Shared → Prop), Core c F A P st s ow m → Is c (fun a => A a ∨ Mm F st ow a) s.heap v x →
    (∀ st' ow' m' s', N st' → Core c F A P st' s' ow' m' → Keep P s.heap s'.heap → Q .next s') →
    (∀ v d n s', T d n → Mid c n s' → Keep P s.heap s'.heap → Is c A s'.heap v d → Q (.ret v) s') →
    wpAny (model c.prog c.w) F.A (assign tgt F.env v) (fun _ s₂ => wpAny (model c.prog c.w) F.A (execs body F.env) Q E s₂) E s
theorem ExA.name {x : Str} {px : Pos} {i : Nat} {k : NameKind} {d : D} {body : List Stmt} (hs : slotOf F.names x = some (i, k)) (hk : canStore F x k = true) (ho : (ownAt st == some i) = false) (h : Ex c F (st.setv i d) body N T) : ExA c F st (.Name x px) d body N T := by
  intro A P ow m s v Q E X iv kN kR
  refine wpAny_assign_Name (store_dat X (slotOf_get hs) hk ho iv fun h' tk m' X2 step => ?_)
  have kp := SlotStep.keep X step
  exact h A P ow m' _ Q E X2 (fun st' ow' m' s' p X' kp' => kN st' ow' m' s' p X' (kp.trans kp')) fun v d n s' p M kp' iv => kR v d n s' p M (kp.trans kp') iv
theorem ExA.tup2 {x y : Str} {px py : Pos} {kk : Nat} {tp : Pos} {i j : Nat} {k k' : NameKind} {d e : D} {body : List Stmt} (hi : slotOf F.names x = some (i, k)) (hk : canStore F x k = true) (ho : (ownAt st == some i) = false) (hj : slotOf F.names y = some (j, k')) (hk' : canStore F y k' = true) (ho' : (ownAt st == some j) = false)
    (h : Ex c F ((st.setv i d).setv j e) body N T) : ExA c F st (.Tuple [.Name x px, .Name y py] kk tp) (.tup [d, e]) body N T := by
  intro A P ow m s v Q E X iv kN kR
  refine unpack2 X iv hi hk ho hj hk' ho' fun s2 m2 X2 kp => ?_
  exact h A P ow m2 _ Q E X2 (fun st' ow' m' s' p X' kp' => kN st' ow' m' s' p X' (kp.trans kp')) fun v d n s' p M kp' iv => kR v d n s' p M (kp.trans kp') iv

/-- the turns -/
noncomputable def Lp (c : Cx) (F : Fm) (tgt : Expr) (body : List Stmt) (N : St → Prop) (T : D → Nat → Prop) : List D → St → Prop
  | [], st => N st
  | x :: xs, st => ExA c F st tgt x body (fun st' => Lp c F tgt body N T xs st') T

theorem Core.guard (X : Core c F A P st s ow m) {R : Addr → Prop} (hR : ∀ a, R a → ¬ Mm F st ow a ∧ a ≠ c.dk ∧ ∃ o, s.heap.get? a = some o) : Core c F A (fun a => P a ∨ R a) st s ow m :=
  ⟨X.wf, X.mid, X.ns, X.cells, X.Adk, X.Adc, fun q => q.elim X.Pdk fun q => (hR _ q).2.1 rfl, X.Alt, fun a q => q.elim (X.Plt a) fun q => (hR a q).2.2, fun a q => q.elim (X.PM a) fun q => (hR a q).1, X.var, X.ovar⟩
/-- writes to guarded and avoided places -/
theorem Core.skip (X : Core c F A P st s ow m) {A₂ P₂ : Addr → Prop} {wr : List Addr} {h' : Heap} {tk : Nat} (hA : ∀ b ∈ wr, A b) (hP : ∀ b ∈ wr, P b) (hlow : ∀ b ∈ wr, c.H0.get? b = none) (k : ∀ b o, b ∉ wr → s.heap.get? b = some o → h'.get? b = some o)
    (hA2 : ∀ a, A₂ a → A a) (hP2 : ∀ a, P₂ a → P a) (hdk : A₂ c.dk) (ex : ∀ b ∈ wr, A₂ b ∨ P₂ b → ∃ o, h'.get? b = some o) (hc : ∀ x cl, F.env.cells.lookup x = some cl → cl ∉ wr) : Core c F A₂ P₂ st { s with heap := h', toks := tk } ow m := by
  have kN : ∀ {N N' : Addr → Prop}, (∀ b, A b → N b) → (∀ b, N' b → N b) → ∀ a o, s.heap.get? a = some o → ¬ N a → h'.get? a = some o ∧ ¬ N' a := fun hN hN' a o e n => ⟨k a o (fun q => n (hN a (hA a q))) e, fun q => n (hN' a q)⟩
  have ex' : ∀ a, (A₂ a ∨ P₂ a) → (∃ o, s.heap.get? a = some o) → ∃ o, h'.get? a = some o := fun a z ⟨o, e⟩ => by
    by_cases q : a ∈ wr
    · exact ex a q z
    · exact ⟨o, k a o q e⟩
  have ndk : c.dk ∉ wr := fun q => X.Pdk (hP _ q)
  have ndc : c.dc ∉ wr := fun q => X.Adc (hA _ q)
  have nM : ∀ {a}, Mm F st ow a → a ∉ wr := fun q z => X.PM _ (hP _ z) q
  have mv : ∀ b, (A₂ b ∨ Mm F st ow b) → (A b ∨ Mm F st ow b) := fun b q => q.imp (hA2 b) id
  refine ⟨X.wf, ⟨fun a o e => k a o (fun q => by rw [hlow a q] at e; cases e) (X.mid.base a o e), by rw [X.mid.glob], ?_⟩, ?_, ?_, hdk, fun q => X.Adc (hA2 _ q), fun q => X.Pdk (hP2 _ q), fun a q => ex' a (.inl q) (X.Alt a (hA2 a q)), fun a q => ex' a (.inr q) (X.Plt a (hP2 a q)), fun a q => X.PM a (hP2 a q), fun i d hi => ?_, fun i d hi => ?_⟩
  · obtain ⟨t, tk, vs, h0, h1, ⟨o, hh, hr⟩, ⟨o2, ho2, hr2⟩, hi, hn⟩ := X.mid.deck
    exact ⟨t, tk, vs, h0, h1, ⟨o, k _ _ ndk hh, hr⟩, ⟨o2, k _ _ ndc ho2, hr2⟩, hi, hn⟩
  · obtain ⟨o, es, ep, h1, r⟩ := X.ns
    exact ⟨o, es, ep, k _ _ (nM (.inl rfl)) h1, r⟩
  · intro y a hy
    obtain ⟨v, o, e, hd⟩ := X.cells y a hy
    exact ⟨v, o, k _ _ (hc y a hy) e, hd⟩
  · obtain ⟨y, kk, v, hn, hh, iv⟩ := X.var i d hi
    refine ⟨y, kk, v, hn, ?_, iv.ext (kN (fun b q => .inl q) mv)⟩
    rcases hh with hh | ⟨a1, cl, a2, ⟨o, e, e2⟩, a3⟩
    · exact .inl hh
    · exact .inr ⟨a1, cl, a2, ⟨o, k _ _ (hc _ _ a2) e, e2⟩, a3⟩
  · obtain ⟨⟨y, kk, hn, hh⟩, ho, h1, r⟩ := X.ovar i d hi
    refine ⟨⟨y, kk, hn, ?_⟩, ho.ext (fun o e => k _ _ (nM (.inr (.inr ⟨by rw [hi]; rfl, rfl⟩))) e) (kN (fun b q => .inl q) mv), fun q => h1 (hA2 _ q), r⟩
    rcases hh with hh | ⟨a1, cl, a2, ⟨o, e, e2⟩, a3⟩
    · exact .inl hh
    · exact .inr ⟨a1, cl, a2, ⟨o, k _ _ (hc _ _ a2) e, e2⟩, a3⟩

theorem Ex1.for {tgt it : Expr} {body : List Stmt} {pos : Pos} (h : It c F st tgt it true fun xs st' => Lp c F tgt body N T xs st') (hs : ∀ x, foldedSetIterable it F.env x = pure x := by intro _; rfl) : Ex1 c F st (.For tgt it body [] pos) N T := by
  intro A P ow m s Q E X kN kR
  refine wpAny_For (h A P ow m s _ E X fun xs n I fp wr Sn src s' p X' e' W hSn hsrc hwr hfp => ?_) hs
  have Mwr : ∀ b ∈ wr, ¬ Mm F st ow b ∧ b ≠ c.dk := by
    intro b hb
    constructor
    · intro q; obtain ⟨o, e⟩ := X.Mex q; rw [hwr b hb] at e; cases e
    · intro q; obtain ⟨o, e⟩ := X.dkex; rw [← q, hwr b hb] at e; cases e
  have hlow : ∀ b ∈ wr, c.H0.get? b = none := fun b hb => none_before (fun o e => ⟨o, X.mid.base b o e⟩) (hwr b hb)
  have hcell : ∀ x cl, F.env.cells.lookup x = some cl → cl ∉ wr := fun x cl hx hb => by
    obtain ⟨v, o, e, _⟩ := X.cells x cl hx
    rw [hwr cl hb] at e; cases e
  let R : Addr → Prop := fun a => (∃ o, s'.heap.get? a = some o) ∧ ¬ Mm F st ow a ∧ a ≠ c.dk
  have X1 := X'.guard (R := R) fun a q => ⟨q.2.1, q.2.2, q.1⟩
  have wrR : ∀ b ∈ wr, R b := fun b hb => ⟨W.ex 0 _ hSn b hb, Mwr b hb⟩
  have fpR : ∀ b ∈ fp, R b := fun b hb => (hfp b hb).elim (wrR b) fun q => ⟨q.1, fun z => q.2 (.inr ⟨rfl, z⟩), fun z => q.2 (.inl (z ▸ X.Adk))⟩
  let J : Nat → Shared → Prop := fun k s₁ => ∃ i st₁ ow₁ m₁, k = xs.length - i ∧ i ≤ xs.length ∧ Lp c F tgt body N T (xs.drop i) st₁ ∧ Core c F (Aw A wr) (fun a => P a ∨ R a) st₁ s₁ ow₁ m₁ ∧ Sn i s₁.heap ∧
    (∀ a o, R a → a ∉ wr → s'.heap.get? a = some o → s₁.heap.get? a = some o) ∧ Keep P s.heap s₁.heap
  refine codeAny_forLoop_any (R := fun r s' => match r with | .ok f => Q f s' | .error e => cameBackBy (model c.prog c.w) F.A F.env E e s') J ?_ xs.length ⟨0, _, ow, m, rfl, Nat.zero_le _, p, X1, hSn, fun _ _ _ _ e => e, keep_of_ext1 X e'⟩
  rintro k s₁ ⟨i, st₁, ow₁, m₁, rfl, hi, hLp, Y, hSi, hK, hKP⟩
  have hwA : ∀ b ∈ wr, Aw A wr b := fun b hb => .inr hb
  have hwP : ∀ b ∈ wr, P b ∨ R b := fun b hb => .inr (wrR b hb)
  have Pwr : ∀ a, P a → a ∉ wr := fun a q z => by obtain ⟨o, e⟩ := X.Plt a q; rw [hwr a z] at e; cases e
  have Awr : ∀ a, A a → a ∉ wr := fun a q z => by obtain ⟨o, e⟩ := X.Alt a q; rw [hwr a z] at e; cases e
  let RR : Result → Shared → Prop := fun r s' => match r with | .ok f => Q f s' | .error e => cameBackBy (model c.prog c.w) F.A F.env E e s'
  let EE := notedBy (model c.prog c.w) F.A F.env fun e s' => RR (.error e) s'
  let KK : Value → Shared → Prop := fun v s₂ => wpAny (model c.prog c.w) F.A (PySem.assign tgt F.env v) (fun _ s₂ => wpAny (model c.prog c.w) F.A (execs body F.env) (fun f s₃ => match f with
            | .next | .cont => ∃ m, m < xs.length - i ∧ J m s₃
            | .brk => RR (.ok .next) s₃
            | .ret v => RR (.ok (.ret v)) s₃) EE s₂) EE s₂
  let RN : Shared → Prop := fun s₂ => wpAny (model c.prog c.w) F.A (execs [] F.env) (fun f s₃ => RR (.ok f) s₃) EE s₂
  refine wpAny_mono (Q := fun r s₂ => match r with | none => RN s₂ | some v => wpAny (model c.prog c.w) F.A (letOwnedTupleGo tgt (.ref I) v) (fun _ s₃ => KK v s₃) EE s₂) ?_ (fun r s₂ h₂ => by cases r <;> exact h₂) fun _ _ e => e
  cases hx : xs[i]? with
  | none =>
    have hlen : i = xs.length := by have := List.getElem?_eq_none_iff.mp hx; lia
    rw [hlen] at hLp hSi
    rw [List.drop_length] at hLp
    refine W.done s₁ KK RN EE hSi fun h' tk hk => wpAny_execs_nil ?_
    refine kN st₁ ow₁ m₁ _ hLp (Y.skip hwA hwP hlow hk (fun a q => .inl q) (fun a q => .inl q) X.Adk (fun b hb q => absurd hb (q.elim (Awr b) (Pwr b))) hcell) ?_
    exact hKP.trans fun a o q e => hk a o (Pwr a q) e
  | some x =>
    have hlt : i < xs.length := (List.getElem?_eq_some_iff.mp hx).1
    have hdrop : xs.drop i = x :: xs.drop (i + 1) := by
      rw [List.drop_eq_getElem_cons hlt]; congr 1; exact (List.getElem?_eq_some_iff.mp hx).2
    rw [hdrop] at hLp
    have hsrc1 : src (fun a => Aw A wr a ∨ Mm F st₁ ow₁ a) s₁.heap := W.smono _ _ _ _ hsrc fun a o e n => by
      have nM : ¬ Mm F st ow a := fun q => n (.inr ⟨rfl, q⟩)
      have nA : ¬ Aw A wr a := fun q => n (.inl q)
      have ndk : a ≠ c.dk := fun q => nA (q ▸ .inl X.Adk)
      have hR : R a := ⟨⟨o, e⟩, nM, ndk⟩
      exact ⟨hK a o hR (fun q => nA (.inr q)) e, fun q => q.elim nA fun q => Y.PM a (.inr hR) q⟩
    refine W.step i x (fun a => Aw A wr a ∨ Mm F st₁ ow₁ a) s₁ KK RN EE hx hSi hsrc1 (fun b hb => .inl (.inr hb)) (fun a q => q.elim (Y.Alt a) Y.Mex) fun v h' tk hS' hk iv => ?_
    have Y' := Y.skip (tk := tk) hwA hwP hlow hk (fun a q => q) (fun a q => q) (.inl X.Adk) (fun b hb _ => W.ex _ _ hS' b hb) hcell
    refine hLp (Aw A wr) (fun a => P a ∨ R a) ow₁ m₁ _ v _ EE Y' iv (fun st' ow' m' s₃ pp Z kp => ?_) (fun v d n s₃ pp M kp iv' => ?_)
    · refine ⟨xs.length - (i + 1), by lia, i + 1, st', ow', m', rfl, hlt, pp, Z, W.frame _ _ _ hS' fun b hb o e => kp b o (.inr (fpR b hb)) e, fun a o hR hw e => kp a o (.inr hR) (hk a o hw (hK a o hR hw e)), ?_⟩
      exact hKP.trans fun a o q e => kp a o (.inl q) (hk a o (Pwr a q) e)
    · exact kR v d n s₃ pp M (hKP.trans fun a o q e => kp a o (.inl q) (hk a o (Pwr a q) e)) (iv'.mono fun a q => .inl q)
end
end Mine

set_option maxRecDepth 100000
namespace Mine
open PySem PySem.W PyProof.Rows PySem.Calls

section
variable {c : Cx} {F : Fm} {A P : Addr → Prop} {st : St} {s : Shared} {ow : Addr} {m : Str → Option Value} {N : St → Prop} {T : D → Nat → Prop}

theorem Ex1.whileR {t : Expr} {b : List Stmt} {pos : Pos} (I : Nat → St → Prop) (n : Nat) (h0 : I n st)
    (turn : ∀ n st', I n st' → Tst c F st' t fun q st2 => (q = true → Ex c F st2 b (fun st3 => ∃ m, m < n ∧ I m st3) T) ∧ (q = false → N st2)) : Ex1 c F st (.While t b [] pos) N T := by
  intro A P ow m s Q E X kN kR
  refine wpAny_While ?_
  let J : Nat → Shared → Prop := fun k s₁ => ∃ st₁ ow₁ m₁, I k st₁ ∧ Core c F A P st₁ s₁ ow₁ m₁ ∧ Keep P s.heap s₁.heap
  refine codeAny_whileLoop (R := fun r s' => match r with | .ok f => Q f s' | .error e => cameBackBy (model c.prog c.w) F.A F.env E e s') J ?_ n ⟨st, ow, m, h0, X, fun _ _ _ e => e⟩
  rintro k s₁ ⟨st₁, ow₁, m₁, hI, Y, hK⟩
  refine turn k st₁ hI A P ow₁ m₁ s₁ _ _ Y fun q n s₂ p Y2 e2 => ?_
  have kp := hK.trans (keep_of_ext1 Y e2)
  cases q with
  | true =>
    refine p.1 rfl A P ow₁ m₁ s₂ _ _ Y2 (fun st3 ow3 m3 s3 p3 Y3 kp3 => ?_) fun v d n s3 p3 M kp3 iv => kR v d n s3 p3 M (kp.trans kp3) iv
    obtain ⟨k', hk', hI'⟩ := p3
    exact ⟨k', hk', st3, ow3, m3, hI', Y3, kp.trans kp3⟩
  | false => exact wpAny_execs_nil (kN _ ow₁ m₁ s₂ (p.2 rfl) Y2 kp)

/-- a thing of one's own, laid -/
theorem Core.toOwn {a : Addr} (X : Core c F (fun b => A b ∨ b = a) P { st with own := Option.none } s ow m) {i : Nat} {x : Str} {k : NameKind} {d : D} {pl : Bool} (hn : F.names[i]? = some (x, k)) (hh : Holds c F { st with own := Option.none } ow s.heap m x k (.ref a))
    (ho : OwnObj c (fun b => (A b ∨ b = a) ∨ Mm F { st with own := Option.none } ow b) s.heap a pl d) (hA : ¬ A a) (hP : ¬ P a) (hL : a ≠ F.env.locals) (hO : ∀ x, (x, a) ∉ F.own) (hH : c.H0.get? a = none) (hdc : a ≠ c.dc) (hdk : a ≠ c.dk) (hAdk : A c.dk)
    (hcell : ∀ x cl, F.env.cells.lookup x = some cl → cl ≠ a) : Core c F A P { st with own := some (i, d), plain := pl } s a m := by
  have hM : ∀ b, Mm F { st with own := some (i, d), plain := pl } a b ↔ (Mm F { st with own := Option.none } ow b ∨ b = a) := by
    intro b
    constructor
    · rintro (h | h | ⟨_, h⟩)
      · exact .inl (.inl h)
      · exact .inl (.inr (.inl h))
      · exact .inr h
    · rintro ((h | h | ⟨h, _⟩) | h)
      · exact .inl h
      · exact .inr (.inl h)
      · cases h
      · exact .inr (.inr ⟨rfl, h⟩)
  have hHolds : ∀ {y kk v}, Holds c F { st with own := Option.none } ow s.heap m y kk v → Holds c F { st with own := some (i, d), plain := pl } a s.heap m y kk v := by
    intro y kk v h
    rcases h with h | ⟨hk, cl, h1, h2, h3⟩
    · exact .inl h
    · refine .inr ⟨hk, cl, h1, h2, ?_⟩
      rcases h3 with h3 | h3
      · exact .inl h3
      · exact .inr ⟨fun q => ((hM cl).mp q).elim h3.1 (hcell _ _ h1), h3.2⟩
  have hN : ∀ b, (A b ∨ Mm F { st with own := some (i, d), plain := pl } a b) → ((A b ∨ b = a) ∨ Mm F { st with own := Option.none } ow b) := fun b q => q.elim (fun q => .inl (.inl q)) fun q => ((hM b).mp q).elim .inr fun q => .inl (.inr q)
  refine ⟨X.wf, X.mid, X.ns, X.cells, hAdk, fun q => X.Adc (.inl q), X.Pdk, fun b q => X.Alt b (.inl q), X.Plt, fun b q z => ((hM b).mp z).elim (X.PM b q) fun e => hP (e ▸ q), fun j e hj => ?_, fun j e hj => ?_⟩
  · obtain ⟨y, kk, v, h1, h2, h3⟩ := X.var j e hj
    exact ⟨y, kk, v, h1, hHolds h2, h3.mono hN⟩
  · cases hj
    exact ⟨⟨x, k, hn, hHolds hh⟩, ho.ext (fun _ e => e) (fun b o e n => ⟨e, fun q => n (hN b q)⟩), hA, hL, hO, hH, hdc⟩

theorem OwnObj.step {N : Addr → Prop} {h h' : Heap} {a : Addr} {pl : Bool} {d : D} (x : OwnObj c N h a pl d) (k : SlotStep F h h') (hL : a ≠ F.env.locals) (hO : ∀ x, (x, a) ∉ F.own) (hN : ∀ a, (a = F.env.locals ∨ ∃ x, (x, a) ∈ F.own) → N a) : OwnObj c N h' a pl d :=
  x.ext (fun o e => k a o e hL hO) fun b o e n => ⟨k b o e (fun q => n (hN b (.inl q))) (fun y q => n (hN b (.inr ⟨y, q⟩))), n⟩

/-- a fresh object is laid under a name -/
theorem store_own {i : Nat} {x : Str} {k : NameKind} {d : D} {a : Addr} {h1 : Heap} {tk1 : Nat} {Q : Unit → Shared → Prop} {E : Value → Shared → Prop} (X : Core c F A P st s ow m) (hn : F.names[i]? = some (x, k)) (hk : canStore F x k = true)
    (k1 : ∀ b o, s.heap.get? b = some o → h1.get? b = some o) (ha : s.heap.get? a = none) (ha1 : ∃ o, h1.get? a = some o) (hobj : OwnObj c (fun b => (A b ∨ b = a) ∨ Mm F { st with own := Option.none } ow b) h1 a true d)
    (h : ∀ s' m', Core c F A P { st with vars := st.vars.set i Option.none, own := some (i, d), plain := true } s' a m' → Keep P s.heap s'.heap → Q () s') : wpAny (model c.prog c.w) F.A (storeName F.env x (.ref a)) Q E { s with heap := h1, toks := tk1 } := by
  have X1 := X.weak (vars := st.vars.set i Option.none) (own := Option.none) (fun j d hj => by
    rw [List.getElem?_set] at hj
    split at hj
    · split at hj <;> cases hj
    · exact hj) (.inr rfl)
  have X2 := (X1.more (B := fun b => b = a) (R := fun _ => False) (tk := tk1) k1 (fun b q => by subst q; exact ⟨ha, ha1⟩) (fun _ q => q.elim)).less (A := fun b => A b ∨ b = a) (P := P) (fun _ q => q) (fun _ q => .inl q) (.inl X.Adk)
  have hfr : ∀ {b : Addr}, (∃ o, s.heap.get? b = some o) → a ≠ b := fun ⟨o, e⟩ q => by rw [← q, ha] at e; cases e
  have hL : a ≠ F.env.locals := hfr (by obtain ⟨o, _, _, e, _⟩ := X.ns; exact ⟨o, e⟩)
  have hO : ∀ x, (x, a) ∉ F.own := fun y hy => hfr (by obtain ⟨v, o, e, _⟩ := X.ocells y a hy; exact ⟨o, e⟩) rfl
  refine store_raw X2 hn (canStore_of hk) (fun d hj => ?_) (fun d hj => nomatch hj) fun h' tk m' X' hh step => ?_
  · simp only [List.getElem?_set_self'] at hj
    cases hq : st.vars[i]? with
    | none => rw [hq] at hj; simp at hj
    | some _ => rw [hq] at hj; simp at hj
  · have hobj' := hobj.step step hL hO fun b q => .inr (q.elim .inl fun q => .inr (.inl q))
    refine h _ m' (X'.toOwn (i := i) (d := d) (pl := true) (st := { st with vars := st.vars.set i Option.none }) hn hh hobj' (fun q => hfr (X.Alt a q) rfl) (fun q => hfr (X.Plt a q) rfl) hL hO (none_before (fun o e => ⟨o, X.mid.base a o e⟩) ha) (hfr X.dcex) (hfr X.dkex) X.Adk
      (fun y cl hy => by obtain ⟨v, o, e, _⟩ := X.cells y cl hy; exact (hfr ⟨o, e⟩).symm)) ?_
    exact (Keep.of k1).trans (SlotStep.keep X2 step)

/-- x = [] -/
theorem Ex1.ownNil {x : Str} {px lp pos : Pos} {i : Nat} {k : NameKind} (hs : slotOf F.names x = some (i, k)) (hk : canStore F x k = true)
    (h : N { st with vars := st.vars.set i Option.none, own := some (i, .list []), plain := true }) : Ex1 c F st (.Assign [.Name x px] (.List [] lp) pos) N T := by
  intro A P ow m s Q E X kN kR
  refine wpAny_Assign_Name (PyProof.Rows.List_ (spliced_none (wpAny_newObj_type ?_ (by show ([] : List Value).toArray.size ≤ sizeLine; rw [sizeLine_eq]; simp)))) rfl
  refine store_own X (slotOf_get hs) hk (push_keep _) (none_at (Nat.le_refl _)) ⟨_, Heap.get?_push_size _ rfl⟩ (.list (vs := []) ⟨_, Heap.get?_push_size _ rfl, rfl, _, rfl⟩ (fun _ => ⟨_, Heap.get?_push_size _ rfl⟩) .nil) fun s' m' X' kp => kN _ _ m' s' h X' kp

/-- the owned thing is changed -/
theorem Core.ownUpd {h' : Heap} {tk : Nat} {i : Nat} {d d' : D} {pl : Bool} (X : Core c F A P st s ow m) (ho : st.own = some (i, d)) (hs : Heap.SameBut ow s.heap h') (hobj : OwnObj c (fun b => A b ∨ Mm F st ow b) h' ow pl d') :
    Core c F A P { st with own := some (i, d'), plain := pl } { s with heap := h', toks := tk } ow m ∧ Keep P s.heap h' := by
  have hMow : Mm F st ow ow := .inr (.inr ⟨by rw [ho]; rfl, rfl⟩)
  obtain ⟨⟨x, kk, hn, hh⟩, hob, hA, hL, hO, hH, hdc⟩ := X.ovar i d ho
  have hdk : ow ≠ c.dk := fun q => hA (q ▸ X.Adk)
  have kp : ∀ b o, b ≠ ow → s.heap.get? b = some o → h'.get? b = some o := fun b o n e => (hs.2 b n).trans e
  have exow : ∃ o, h'.get? ow = some o := by
    cases hobj with
    | list hl _ _ => obtain ⟨o, e, _⟩ := hl; exact ⟨o, e⟩
    | map hm _ _ => obtain ⟨o, _, _, e, _⟩ := hm; exact ⟨o, e⟩
  have ex : ∀ b, (∃ o, s.heap.get? b = some o) → ∃ o, h'.get? b = some o := fun b ⟨o, e⟩ => by
    by_cases q : b = ow
    · subst q; exact exow
    · exact ⟨o, kp b o q e⟩
  have hM : ∀ b, Mm F { st with own := some (i, d'), plain := pl } ow b ↔ Mm F st ow b := by
    intro b
    constructor
    · rintro (h | h | ⟨_, h⟩)
      · exact .inl h
      · exact .inr (.inl h)
      · exact h ▸ hMow
    · rintro (h | h | ⟨_, h⟩)
      · exact .inl h
      · exact .inr (.inl h)
      · exact .inr (.inr ⟨rfl, h⟩)
  have ncell : ∀ x cl, F.env.cells.lookup x = some cl → cl ≠ ow := by
    intro x cl hx q
    obtain ⟨v, o, e, hv⟩ := X.cells x cl hx
    cases hob with
    | list hl _ _ => obtain ⟨o2, e2, _, n, hd⟩ := hl; rw [q, e2] at e; cases e; rw [hd] at hv; cases hv
    | map hm _ _ => obtain ⟨o2, es, ep, e2, _, hd, _⟩ := hm; rw [q, e2] at e; cases e; rw [hd] at hv; cases hv
  have hHolds : ∀ {y kk v}, Holds c F st ow s.heap m y kk v → Holds c F { st with own := some (i, d'), plain := pl } ow h' m y kk v := by
    intro y kk v h
    rcases h with h | ⟨hk, cl, h1, ⟨o, e, e2⟩, h3⟩
    · exact .inl h
    · refine .inr ⟨hk, cl, h1, ⟨o, kp _ _ (ncell _ _ h1) e, e2⟩, ?_⟩
      rcases h3 with h3 | h3
      · exact .inl h3
      · exact .inr ⟨fun q => h3.1 ((hM cl).mp q), h3.2⟩
  have kN : ∀ a o, s.heap.get? a = some o → ¬ (A a ∨ Mm F st ow a) → h'.get? a = some o ∧ ¬ (A a ∨ Mm F { st with own := some (i, d'), plain := pl } ow a) := fun a o e n => ⟨kp a o (fun q => n (.inr (q ▸ hMow))) e, fun q => n (q.imp id (hM a).mp)⟩
  refine ⟨⟨X.wf, ⟨fun a o e => kp a o (fun q => by rw [q, hH] at e; cases e) (X.mid.base a o e), by rw [X.mid.glob], ?_⟩, ?_, ?_, X.Adk, X.Adc, X.Pdk, fun a q => ex a (X.Alt a q), fun a q => ex a (X.Plt a q), fun a q z => X.PM a q ((hM a).mp z), fun j e hj => ?_, fun j e hj => ?_⟩, fun a o q e => kp a o (fun z => X.PM a q (z ▸ hMow)) e⟩
  · obtain ⟨t, tk, vs, h0, h1, ⟨o, hh, hr⟩, ⟨o2, ho2, hr2⟩, hi, hn⟩ := X.mid.deck
    exact ⟨t, tk, vs, h0, h1, ⟨o, kp _ _ (Ne.symm hdk) hh, hr⟩, ⟨o2, kp _ _ (Ne.symm hdc) ho2, hr2⟩, hi, hn⟩
  · obtain ⟨o, es, ep, h1, r⟩ := X.ns
    exact ⟨o, es, ep, kp _ _ (Ne.symm hL) h1, r⟩
  · intro y a hy
    obtain ⟨v, o, e, hd⟩ := X.cells y a hy
    exact ⟨v, o, kp _ _ (ncell y a hy) e, hd⟩
  · obtain ⟨y, kk, v, h1, h2, h3⟩ := X.var j e hj
    exact ⟨y, kk, v, h1, hHolds h2, h3.ext kN⟩
  · cases hj
    exact ⟨⟨x, kk, hn, hHolds hh⟩, hobj.ext (fun _ e => e) (fun a o e n => ⟨e, fun q => n (q.imp id (hM a).mp)⟩), hA, hL, hO, hH, hdc⟩

/-- x.append(e) -/
theorem Ex1.append {x : Str} {px ap cp pos : Pos} {e : Expr} {i : Nat} {k : NameKind} {ds : List D} (hn : F.names[i]? = some (x, k)) (ho : st.own = some (i, .list ds)) (hpl : st.plain = true) (hsz : ds.length ≤ 1000000)
    (h : Ev c F true st e fun d st' => N { st' with own := some (i, .list (ds ++ [d])), plain := true }) (hd : (x == ("__debug__" : Str)) = false := by decide) (hcd : (x == ("__classdict__" : Str)) = false := by decide)
    (he : starEach [e] F.env = [(false, eval e F.env)] := by rfl)
    (hm : eval (.Call (.Attribute (.Name x px) (Str.ofString "append") ap) [e] [] cp) F.env = (do
      let ov ← eval (.Name x px) F.env
      standAt ap.atName
      let (f, first) ← holding [ov] (getMethod ov (Str.ofString "append") (do return (← importBound (.Name x px) F.env).getD true))
      callWith cp f first (backTo cp (starEach [e] F.env)) []) := by rfl) (hi : interactive F.env = false := by rfl) :
    Ex1 c F st (.Expr (.Call (.Attribute (.Name x px) (Str.ofString "append") ap) [e] [] cp) pos) N T := by
  intro A P ow m s Q E X kN kR
  refine wpAny_Expr ?_ hi rfl
  refine PyProof.Rows.MethodCall_ ?_ hm
  obtain ⟨⟨y, k', hn', hh⟩, hobj, hA, r⟩ := X.ovar i _ ho
  rw [hn] at hn'; cases hn'
  refine wpAny_Name (load_holds X hn hh ?_ hcd) hd
  rw [hpl] at hobj
  cases hobj with | list hl hp rr =>
  rename_i vs
  obtain ⟨nn, hp'⟩ := hp rfl
  refine Calls.getMethod_list_append hp' rfl rfl ?_
  show wpAny _ _ (callWith _ (Value.builtin "list.append") [Value.ref ow] _ []) _ _ _
  rw [he]
  refine Calls.callWith_builtin (by rfl) (Calls.evalArgs_plain (Calls.spliced_cons (h A P ow m s _ E X fun v d n s' p X' iv e' => Calls.spliced_nil ?_)))
  have ho' : ({ st with tb := n } : St).own = some (i, .list ds) := ho
  obtain ⟨_, hobj', _⟩ := X'.ovar i _ ho'
  rw [show ({ st with tb := n } : St).plain = true from hpl] at hobj'
  cases hobj' with | list hl2 hp2 rr2 =>
  rename_i ws
  have rl := rr2.length
  refine wpAny_list_append_plain (hsz := by rw [List.size_toArray, sizeLine_eq]; lia) (hp2 rfl) fun h' hpl' hs' => ?_
  have e1 : ws.toArray.push v = (ws ++ [v]).toArray := by simp
  rw [e1] at hpl'
  have hMow : Mm F { st with tb := n } ow ow := .inr (.inr ⟨by rw [ho']; rfl, rfl⟩)
  have mv : ∀ a o, s'.heap.get? a = some o → ¬ (A a ∨ Mm F { st with tb := n } ow a) → h'.get? a = some o ∧ ¬ (A a ∨ Mm F { st with tb := n } ow a) := fun a o e nn => ⟨(hs'.2 a (fun q => nn (.inr (q ▸ hMow)))).trans e, nn⟩
  obtain ⟨X2, kp⟩ := X'.ownUpd (tk := s'.toks) (d' := .list (ds ++ [d])) (pl := true) ho' hs' (.list hpl'.isList (fun _ => hpl') ((rr2.ext mv).append (.cons ((strong (st := { st with tb := n }) iv).ext mv) .nil)))
  exact kN _ ow m _ p X2 ((keep_of_ext1 X e').trans kp)
end
end Mine

set_option maxRecDepth 100000
namespace Mine
open PySem PySem.W PyProof.Rows PySem.Calls

section
variable {c : Cx}

theorem bindL_not {kf : Str → Option NameKind} : ∀ (bs : List (Str × Value)) (m : Str → Option Value) (y : Str), y ∉ bs.map (·.1) → bindL kf bs m y = m y
  | [], _, _, _ => rfl
  | (n, w) :: r, m, y, h => by
    simp only [List.map_cons, List.mem_cons, not_or] at h
    rw [bindL, bindL_not r _ y h.2]
    by_cases q : kf n = some .local
    · rw [if_pos q, if_neg h.1]
    · rw [if_neg q]
theorem bindC_not {kf : Str → Option NameKind} : ∀ (bs : List (Str × Value)) (m : Str → Option Value) (y : Str), y ∉ bs.map (·.1) → bindC kf bs m y = m y
  | [], _, _, _ => rfl
  | (n, w) :: r, m, y, h => by
    simp only [List.map_cons, List.mem_cons, not_or] at h
    rw [bindC, bindC_not r _ y h.2]
    by_cases q : kf n = some .local
    · rw [if_pos q]
    · rw [if_neg q, if_neg h.1]
theorem bindL_get {kf : Str → Option NameKind} : ∀ (bs : List (Str × Value)) (m : Str → Option Value) (y : Str) (v : Value), (bs.map (·.1)).Nodup → bs.lookup y = some v → kf y = some .local → bindL kf bs m y = some v
  | [], _, _, _, _, h, _ => by simp at h
  | (n, w) :: r, m, y, v, hn, h, hk => by
    simp only [List.map_cons, List.nodup_cons] at hn
    rw [List.lookup_cons] at h
    rw [bindL]
    cases q : y == n with
    | true =>
      rw [q] at h; cases h
      have e := beq_iff_eq.mp q
      subst e
      rw [if_pos hk, bindL_not r _ y hn.1, if_pos rfl]
    | false =>
      rw [q] at h
      exact bindL_get r _ y v hn.2 h hk
theorem bindC_get {kf : Str → Option NameKind} : ∀ (bs : List (Str × Value)) (m : Str → Option Value) (y : Str) (v : Value), (bs.map (·.1)).Nodup → bs.lookup y = some v → kf y ≠ some .local → bindC kf bs m y = some v
  | [], _, _, _, _, h, _ => by simp at h
  | (n, w) :: r, m, y, v, hn, h, hk => by
    simp only [List.map_cons, List.nodup_cons] at hn
    rw [List.lookup_cons] at h
    rw [bindC]
    cases q : y == n with
    | true =>
      rw [q] at h; cases h
      have e := beq_iff_eq.mp q
      subst e
      rw [if_neg hk, bindC_not r _ y hn.1, if_pos rfl]
    | false =>
      rw [q] at h
      exact bindC_get r _ y v hn.2 h hk

theorem zip_get {N : Addr → Prop} {h : Heap} : ∀ {ps : List Str} {vs : List Value} {ds : List D} {y : Str} {d : D}, IsAll c N h vs ds → (ps.zip ds).lookup y = some d → ∃ v, (ps.zip vs).lookup y = some v ∧ Is c N h v d
  | [], _, _, _, _, _, h => by simp at h
  | p :: ps, [], ds, _, _, x, h => by cases x; simp at h
  | p :: ps, v :: vs, ds, y, d, x, h => by
    cases x with | cons a r =>
    rw [List.zip_cons_cons, List.lookup_cons] at h ⊢
    cases q : y == p with
    | true => rw [q] at h; cases h; exact ⟨v, rfl, a⟩
    | false => rw [q] at h; exact zip_get r h
theorem zip_mem {ps : List Str} {ds : List D} {y : Str} {d : D} (h : (ps.zip ds).lookup y = some d) : y ∈ ps := by
  have := PySem.mem_of_lookup h
  exact (List.of_mem_zip this).1

theorem zip_nodup : ∀ {ps : List Str} {vs : List Value}, ps.Nodup → ((ps.zip vs).map (·.1)).Nodup
  | [], _, _ => by simp
  | _ :: _, [], _ => by simp
  | p :: ps, v :: vs, h => by
    simp only [List.zip_cons_cons, List.map_cons, List.nodup_cons] at h ⊢
    refine ⟨fun q => ?_, zip_nodup h.2⟩
    obtain ⟨⟨a, b⟩, hm, e⟩ := List.mem_map.mp q
    exact h.1 (e ▸ (List.of_mem_zip hm).1)

noncomputable def initV (names : List (Str × NameKind)) (ps : List Str) (ds : List D) : List (Option D) := names.map fun p => (ps.zip ds).lookup p.1

/-- the frame of a call -/
@[reducible] noncomputable def frm (fd : FuncData) (a : Addr) (k : Nat) (L : Addr) (B : Around) : Fm := ⟨callEnvC fd L a, B, k, fd.scope.names, cellsFrom (L + 1) fd.scope.names []⟩

theorem Room.deeper {k : Nat} {B : Around} {env : Env} (r : Room (k + 1) B) : Room k (B.deeper env) := by
  obtain ⟨h1, h2, h3⟩ := r
  refine ⟨h1, ?_, ?_⟩
  · show B.depth + 1 + 2 * k < 900; lia
  · show B.units + 3 + 8 * k + 400 < 9900; lia

theorem Fn.fd {a : Addr} {fd : FuncData} {body : List Stmt} {o : Obj} {ps : List Str} {ds : List D} {k b : Nat} {T : D → Prop} (ho : c.H0.get? a = some o) (hd : o.data = .func fd) (hcd : c.H0.CodeRec fd.code fd.qualname) (hbody : fd.body = .stmts body) (hclo : fd.closure = [])
    (hglob : fd.globals = mainGlobals) (hbui : fd.builtins = builtinsNs) (hbind : ∀ vs : List Value, vs.length = ds.length → bindArgs fd ⟨vs, []⟩ = pure (ps.zip vs)) (hps : ps.Nodup)
    (hkind : ∀ x ∈ ps, fd.scope.names.lookup x = some .local ∨ (fd.scope.names.lookup x = some .cell)) (hnd : (fd.scope.names.map (·.1)).Nodup) (hcn : ((cellsFrom 0 fd.scope.names []).map (·.1)).Nodup)
    (hcl : ∀ n x, fd.scope.names.lookup x = some .cell → ((cellsFrom n fd.scope.names []).lookup x).isSome = true) (hnf : ∀ p ∈ fd.scope.names, p.2 ≠ .free)
    (h : ∀ L B n, n + b ≤ maxT → Ex c (frm fd a k L B) { vars := initV fd.scope.names ps ds, tb := n } body (fun st => T .none ∧ st.tb ≤ n + b) (fun d n' => T d ∧ n' ≤ n + b))
    (hco : fd.scope.isCoroutine = false := by rfl) (hgen : fd.scope.isGenerator = false := by rfl) (hk : fd.scope.kind = .function := by rfl) : Fn c a (k + 1) b ds T := by
  intro B A n vs s Q E r hn M hAdk hAdc hAex is kk
  refine wpAny_call ?_
  have hlim : s.heap.NoLimit := c.nolimit.keeps M.base
  have hL : s.heap.get? s.heap.objs.size = none := none_at (Nat.le_refl _)
  have hbk : ∀ x ∈ ps.zip vs, fd.scope.names.lookup x.1 = some .local ∨ (fd.scope.names.lookup x.1 = some .cell ∧ ((cellsFrom (s.heap.objs.size + 1) fd.scope.names []).lookup x.1).isSome = true) := fun x hx =>
    (hkind x.1 (List.of_mem_zip hx).1).imp id fun q => ⟨q, hcl _ _ q⟩
  refine codeAny_call_cells (by have := r.2.1; unfold recursionLimit; lia) (M.base _ _ ho) hd hlim (hcd.keeps M.base) hbody (hbind vs is.length) hclo hbk (fun s₁ X => ?_) hco hgen hk
  have keep := X.toInCall.keep
  have hown : ∀ x a', (x, a') ∈ cellsFrom (s.heap.objs.size + 1) fd.scope.names [] → s.heap.get? a' = none ∧ a' ≠ s.heap.objs.size := fun x a' hx => by
    have := X.above x a' hx
    have hlt : s.heap.objs.size < a' := this
    exact ⟨none_at (Nat.le_of_lt hlt), Nat.ne_of_gt hlt⟩
  have hocell : ∀ x a', (x, a') ∈ cellsFrom (s.heap.objs.size + 1) fd.scope.names [] → (cellsFrom (s.heap.objs.size + 1) fd.scope.names []).lookup x = some a' := fun x a' hx =>
    lookup_of_mem_nodup (cellsFrom_names fd.scope.names 0 (s.heap.objs.size + 1) [] [] rfl ▸ hcn) hx
  have fr : ∀ {b : Addr}, s.heap.get? b = none → c.H0.get? b = none := fun hb => none_before (fun o e => ⟨o, M.base _ o e⟩) hb
  have dk : ∃ o, s.heap.get? c.dk = some o := by obtain ⟨_, _, _, _, _, ⟨o, e, _⟩, _⟩ := M.deck; exact ⟨o, e⟩
  have ndk : ∀ {b : Addr}, s.heap.get? b = none → b ≠ c.dk := fun hb q => by obtain ⟨o, e⟩ := dk; rw [← q, hb] at e; cases e
  obtain ⟨⟨h1, tk, hs1⟩, hns, _, hfr⟩ := id X.toInCall
  have Xc : Core c (frm fd a k s.heap.objs.size (B.deeper (callEnvC fd s.heap.objs.size a))) A (fun b => (∃ o, s.heap.get? b = some o) ∧ b ≠ c.dk) { vars := initV fd.scope.names ps ds, tb := n } s₁ 0 (bindL (callEnvC fd s.heap.objs.size a).kindOf (ps.zip vs) fun _ => none) := by
    have hMf : ∀ b, Mm (frm fd a k s.heap.objs.size (B.deeper (callEnvC fd s.heap.objs.size a))) { vars := initV fd.scope.names ps ds, tb := n } 0 b → s.heap.get? b = none := by
      rintro b (q | ⟨x, q⟩ | ⟨q, _⟩)
      · exact q ▸ hL
      · exact (hown x b q).1
      · cases q
    refine ⟨⟨hk, rfl, hglob, hbui, r.deeper, hnd, fr hL, ndk hL, fun x a' hx => ⟨fr (hown x a' hx).1, (hown x a' hx).2, ndk (hown x a' hx).1⟩, hocell, fun x y a' h1 h2 => name_of_addr X.apart h1 h2⟩, ?_, hns, fun x a' hx => ⟨_, X.cell x a' hx⟩, hAdk, hAdc, fun q => q.2 rfl, fun b hb => ?_, fun b hb => ?_, fun b hb q => ?_, fun i d hi => ?_, fun i d hi => nomatch hi⟩
    · refine ⟨fun b o e => keep b o (M.base b o e), ?_, M.deck.keep keep⟩
      rw [hs1, M.glob]
    · obtain ⟨o, e⟩ := hAex b hb; exact ⟨o, keep _ _ e⟩
    · obtain ⟨o, e⟩ := hb.1; exact ⟨o, keep _ _ e⟩
    · obtain ⟨o, e⟩ := hb.1; rw [hMf b q] at e; cases e
    · have hi' : ∃ y kd, fd.scope.names[i]? = some (y, kd) ∧ (ps.zip ds).lookup y = some d := by
        have : (initV fd.scope.names ps ds)[i]? = some (some d) := hi
        unfold initV at this
        rw [List.getElem?_map] at this
        obtain ⟨⟨y, kd⟩, e1, e2⟩ := Option.map_eq_some_iff.mp this
        exact ⟨y, kd, e1, e2⟩
      obtain ⟨y, kd, e1, e2⟩ := hi'
      obtain ⟨v, e3, iv⟩ := zip_get is e2
      have hy := zip_mem e2
      have hkd := lookup_of_idx hnd e1
      have hzn : ((ps.zip vs).map (·.1)).Nodup := zip_nodup hps
      refine ⟨y, kd, v, e1, ?_, iv.ext fun b o e nn => ⟨keep b o e, fun q => q.elim nn fun q => by rw [hMf b q] at e; cases e⟩⟩
      rcases hkind y hy with q | q
      · rw [hkd] at q; cases q
        exact .inl ⟨rfl, bindL_get _ _ _ _ hzn e3 hkd⟩
      · rw [hkd] at q; cases q
        obtain ⟨cl, hcl'⟩ := Option.isSome_iff_exists.mp (hcl (s.heap.objs.size + 1) y hkd)
        refine .inr ⟨.inl rfl, cl, hcl', ?_, .inl ⟨rfl, PySem.mem_of_lookup hcl'⟩⟩
        have := X.cell y cl hcl'
        rw [bindC_get _ _ _ _ hzn e3 (by rw [show (callEnvC fd s.heap.objs.size a).kindOf y = fd.scope.names.lookup y from rfl, hkd]; simp)] at this
        exact this
  have e1 : ∀ {h' : Heap}, Keep (fun b => (∃ o, s.heap.get? b = some o) ∧ b ≠ c.dk) s₁.heap h' → Ext1 c s.heap h' := fun kp b o e nn => kp b o ⟨⟨o, e⟩, nn⟩ (keep b o e)
  refine h s.heap.objs.size _ n hn A _ 0 _ s₁ _ _ Xc (fun st' ow' m' s' p X' kp => ?_) fun v d n' s' p M' kp iv => ?_
  · exact kk .none .none s' p.1 (X'.mid.le p.2) (e1 kp) .none
  · exact kk v d s' p.1 (M'.le p.2) (e1 kp) iv
end
end Mine

set_option maxRecDepth 100000
namespace Mine
open PySem PySem.W PyProof.Rows PySem.Calls

section
variable {c : Cx} {F : Fm} {l : Bool} {A P : Addr → Prop} {st : St} {s : Shared} {ow : Addr} {m : Str → Option Value} {N : St → Prop} {T : D → Nat → Prop} {Post : D → St → Prop}

/-- deck[1] -/
theorem Ev.deck1 {x : Str} {p p1 pos : Pos} {kk : Nat} (hx : look F.names st.vars x = some .deck) (h : ∀ t : Int, 0 ≤ t → t ≤ st.tb → Post (.int t) st) (hd : (x == ("__debug__" : Str)) = false := by decide) (hcd : (x == ("__classdict__" : Str)) = false := by decide) :
    Ev c F l st (.Subscript (.Name x p) (.Constant (.int 1) kk p1) pos) Post := by
  intro A P ow m s Q E X k
  refine PyProof.Rows.Subscript_ (Ev.name (l := false) (Post := fun d st1 => d = .deck ∧ st1 = st) hx ⟨rfl, rfl⟩ hd hcd A P ow m s _ E X fun v d n s' p X' iv e' => ?_)
  obtain ⟨rfl, he⟩ := p
  cases iv
  refine wpAny_Constant_int ?_
  obtain ⟨t, tk, vs, h0, h1, hl, _⟩ := X'.mid.deck
  refine subTail (s := { s' with toks := _ }) rfl hl.typeIs slot_list_getitem.lookup (wpAny_getItem_list hl (by decide) (by decide) (x := .int t tk) rfl ?_)
  have hn : n = st.tb := congrArg St.tb he
  subst hn
  exact k _ _ st.tb _ (h t h0 h1) (X'.tok _) (.int _ _) e'
/-- deck[0] -/
theorem Ev.deck0 {x : Str} {p p1 pos : Pos} {kk : Nat} (hx : look F.names st.vars x = some .deck) (h : Post (.list (c.cells.map .int)) st) (hd : (x == ("__debug__" : Str)) = false := by decide) (hcd : (x == ("__classdict__" : Str)) = false := by decide) :
    Ev c F l st (.Subscript (.Name x p) (.Constant (.int 0) kk p1) pos) Post := by
  intro A P ow m s Q E X k
  refine PyProof.Rows.Subscript_ (Ev.name (l := false) (Post := fun d st1 => d = .deck ∧ st1 = st) hx ⟨rfl, rfl⟩ hd hcd A P ow m s _ E X fun v d n s' p X' iv e' => ?_)
  obtain ⟨rfl, he⟩ := p
  cases iv
  refine wpAny_Constant_int ?_
  obtain ⟨t, tk, vs, h0, h1, hl, hl2, hi, _⟩ := X'.mid.deck
  refine subTail (s := { s' with toks := _ }) rfl hl.typeIs slot_list_getitem.lookup (wpAny_getItem_list hl (by decide) (by decide) (x := .ref c.dc) rfl ?_)
  have hn : n = st.tb := congrArg St.tb he
  subst hn
  exact k _ _ st.tb _ h (X'.tok _) (.list hl2 (X'.Avdc _) (.ofInts hi)) e'
/-- deck[1] = e -/
theorem Ex1.deckStore {x : Str} {p p1 sp pos : Pos} {kk : Nat} {e : Expr} (hx : look F.names st.vars x = some .deck) (h : Ev c F false st e fun d st1 => st1.vars = st.vars ∧ ∃ (i : Int) (n : Nat), d = .int i ∧ 0 ≤ i ∧ i ≤ n ∧ N { st1 with tb := n })
    (hsw : swapsWith e (some (.Subscript (.Name x p) (.Constant (.int 1) kk p1) sp)) pos.line F.env = pure false := by rfl) (hd : (x == ("__debug__" : Str)) = false := by decide) (hcd : (x == ("__classdict__" : Str)) = false := by decide) :
    Ex1 c F st (.Assign [.Subscript (.Name x p) (.Constant (.int 1) kk p1) sp] e pos) N T := by
  intro A P ow m s Q E X kN kR
  refine wpAny_Assign_Subscript (h A P ow m s _ E X fun v d n s1 pp X1 iv e1 => ?_) hsw
  obtain ⟨hv, i, n', rfl, h0, h1, pp⟩ := pp
  obtain ⟨tv, rfl⟩ := iv.invInt
  refine Ev.name (l := false) (Post := fun d st1 => d = .deck) (by exact hx) rfl hd hcd A P ow m s1 _ E X1 fun v2 d2 n2 s2 p2 X2 i2 e2 => ?_
  subst p2
  cases i2
  refine wpAny_Constant_int ?_
  obtain ⟨t, tk, vs, _, _, hl, hl2, hi, hne⟩ := X2.mid.deck
  refine wpAny_setItem_list (s := { s2 with toks := _ }) hl (by decide) (by decide) (by simp) fun h' hl' hs' => ?_
  have ex : Ext1 c s2.heap h' := fun a o e nn => (hs'.2 a nn).trans e
  have hD : DeckAt c n' h' := ⟨i, tv, vs, h0, h1, by simpa using hl', let ⟨o, e, r⟩ := hl2; ⟨o, ex _ _ e hne, r⟩, hi, hne⟩
  have X3 := X2.step (tk := s2.toks + 1) ex hD
  exact kN _ ow m _ pp X3 (((keep_of_ext1 X e1).trans (keep_of_ext1 X1 e2)).trans (keep_of_ext1 X2 ex))

/-- x[i] = e for a list of one's own -/
theorem Ex1.ownSet {x : Str} {px sp pos : Pos} {e ie : Expr} {i : Nat} {k : NameKind} {ds : List D} (hn : F.names[i]? = some (x, k)) (ho : st.own = some (i, .list ds)) (hsz : ds.length ≤ 1000000)
    (h : Ev c F true st e fun d st1 => Ev c F false st1 ie fun di st2 => ∃ j : Int, di = .int j ∧ 0 ≤ j ∧ j < ds.length ∧ N { st2 with own := some (i, .list (ds.set j.toNat d)), plain := false })
    (hsw : swapsWith e (some (.Subscript (.Name x px) ie sp)) pos.line F.env = pure false := by rfl) (hd : (x == ("__debug__" : Str)) = false := by decide) (hcd : (x == ("__classdict__" : Str)) = false := by decide) :
    Ex1 c F st (.Assign [.Subscript (.Name x px) ie sp] e pos) N T := by
  intro A P ow m s Q E X kN kR
  refine wpAny_Assign_Subscript (h A P ow m s _ E X fun v d n s1 pp X1 iv e1 => ?_) hsw
  obtain ⟨⟨y, k', hn', hh⟩, hobj, _⟩ := X1.ovar i _ (by exact ho)
  rw [hn] at hn'; cases hn'
  refine wpAny_Name (load_holds X1 hn hh ?_ hcd) hd
  refine pp A P ow m s1 _ E X1 fun v2 d2 n2 s2 p2 X2 i2 e2 => ?_
  obtain ⟨j, rfl, h0, h1, p2⟩ := p2
  obtain ⟨tj, rfl⟩ := i2.invInt
  have ho2 : ({ st with tb := n2 } : St).own = some (i, .list ds) := ho
  obtain ⟨_, hobj2, _⟩ := X2.ovar i _ ho2
  cases hobj2 with | list hl hp rr =>
  rename_i ws
  have rl := rr.length
  refine wpAny_setItem_list hl h0 (by lia) (by simp only [List.size_toArray]; lia) fun h' hl' hs' => ?_
  have e3 : ws.toArray.setIfInBounds j.toNat v = (ws.set j.toNat v).toArray := by simp
  rw [e3] at hl'
  have hMow : Mm F { st with tb := n2 } ow ow := .inr (.inr ⟨by rw [ho2]; rfl, rfl⟩)
  have mv : ∀ a o, s2.heap.get? a = some o → ¬ (A a ∨ Mm F { st with tb := n2 } ow a) → h'.get? a = some o ∧ ¬ (A a ∨ Mm F { st with tb := n2 } ow a) := fun a o e nn => ⟨(hs'.2 a (fun q => nn (.inr (q ▸ hMow)))).trans e, nn⟩
  have iv2 : Is c (fun a => A a ∨ Mm F { st with tb := n2 } ow a) s2.heap v d := (strong (st := { st with tb := n2 }) iv).ext1 e2 (.inl X.Adk)
  obtain ⟨X3, kp⟩ := X2.ownUpd (tk := s2.toks) (d' := .list (ds.set j.toNat d)) (pl := false) ho2 hs' (.list hl' (fun q => by cases q) ((rr.ext mv).set (iv2.ext mv) _))
  exact kN _ ow m _ p2 X3 (((keep_of_ext1 X e1).trans (keep_of_ext1 X1 e2)).trans kp)
/-- x[i] = e for a dict of ints of one's own -/
theorem Ex1.ownMap {x : Str} {px sp pos : Pos} {e ie : Expr} {i : Nat} {k : NameKind} {g : Int → Option Int} {nn : Nat} (hn : F.names[i]? = some (x, k)) (ho : st.own = some (i, .map g nn)) (hsz : nn ≤ 1000000)
    (h : Ev c F true st e fun d st1 => Ev c F false st1 ie fun di st2 => ∃ j u : Int, di = .int j ∧ d = .int u ∧ N { st2 with own := some (i, .map (fun z => if z = j then some u else g z) (nn + 1)), plain := st2.plain })
    (hsw : swapsWith e (some (.Subscript (.Name x px) ie sp)) pos.line F.env = pure false := by rfl) (hd : (x == ("__debug__" : Str)) = false := by decide) (hcd : (x == ("__classdict__" : Str)) = false := by decide) :
    Ex1 c F st (.Assign [.Subscript (.Name x px) ie sp] e pos) N T := by
  intro A P ow m s Q E X kN kR
  refine wpAny_Assign_Subscript (h A P ow m s _ E X fun v d n s1 pp X1 iv e1 => ?_) hsw
  obtain ⟨⟨y, k', hn', hh⟩, hobj, _⟩ := X1.ovar i _ (by exact ho)
  rw [hn] at hn'; cases hn'
  refine wpAny_Name (load_holds X1 hn hh ?_ hcd) hd
  refine pp A P ow m s1 _ E X1 fun v2 d2 n2 s2 p2 X2 i2 e2 => ?_
  obtain ⟨j, u, rfl, rfl, p2⟩ := p2
  obtain ⟨tj, rfl⟩ := i2.invInt
  obtain ⟨tu, rfl⟩ := iv.invInt
  have ho2 : ({ st with tb := n2 } : St).own = some (i, .map g nn) := ho
  obtain ⟨_, hobj2, _⟩ := X2.ovar i _ ho2
  cases hobj2 with | map hm hle hv =>
  refine wpAny_setItem_intMap_le hm hle (by rw [sizeLine_eq]; lia) fun h' hm' hle' hs' => ?_
  rename_i f
  have hv' : ∀ z, MapVal (if z = j then some (Value.int u tu) else f z) (if z = j then some u else g z) := by
    intro z
    by_cases q : z = j
    · rw [if_pos q, if_pos q]; exact rfl
    · rw [if_neg q, if_neg q]; exact hv z
  obtain ⟨X3, kp⟩ := X2.ownUpd (tk := s2.toks + 1) (d' := .map (fun z => if z = j then some u else g z) (nn + 1)) (pl := st.plain) ho2 hs' (.map hm' hle' hv')
  exact kN _ ow m _ p2 X3 (((keep_of_ext1 X e1).trans (keep_of_ext1 X1 e2)).trans kp)
/-- x = {} -/
theorem Ex1.ownDict {x : Str} {px lp pos : Pos} {i : Nat} {k : NameKind} (hs : slotOf F.names x = some (i, k)) (hk : canStore F x k = true)
    (h : N { st with vars := st.vars.set i Option.none, own := some (i, .map (fun _ => Option.none) 0), plain := true }) : Ex1 c F st (.Assign [.Name x px] (.Dict [] [] lp) pos) N T := by
  intro A P ow m s Q E X kN kR
  refine wpAny_Assign_Name ?_ rfl
  rw [eval_Dict_empty]
  refine wpAny_bind (wpAny_standAt (wpAny_newObj_type ?_))
  refine store_own X (slotOf_get hs) hk (push_keep _) (none_at (Nat.le_refl _)) ⟨_, Heap.get?_push_size _ rfl⟩ (.map (f := fun _ => Option.none) (g := fun _ => Option.none) (Heap.IntMap.new _) (Heap.DictLe.new _) fun _ => trivial) fun s' m' X' kp => kN _ _ m' s' h X' kp

/-- the class of pieces -/
structure ClsAt (c : Cx) (fI fD : Addr) : Prop where
  pg : plainGet c.K c.C (Str.ofString "") = true
  hd : hasDictIn c.K c.C = true
  a1 : findIn c.K (.ref c.C) "first" = some Option.none
  a2 : findIn c.K (.ref c.C) "behind" = some Option.none
  a3 : findIn c.K (.ref c.C) "levels" = some Option.none
  idle : findIn c.K (.ref c.C) "is_idle" = some (some (.ref fD))
  idleF : typeIn c.K (.ref fD) = some (.type "function")
  makes : makesIn c.K c.C = true
  init : findIn c.K (.ref c.C) "__init__" = some (some (.ref fI))
  initF : typeIn c.K (.ref fI) = some (.type "function")
  setA : findIn c.K (.ref c.C) "__setattr__" = some (some (.builtin "object.__setattr__"))
  over : plainOver c.K c.C = true
  t1 : takerIn c.K c.C "first" = some Option.none
  t2 : takerIn c.K c.C "behind" = some Option.none
  t3 : takerIn c.K c.C "levels" = some Option.none

theorem inst_at {h : Heap} {x dx : Addr} {es : List DictEntry} {n : Nat} (h1 : h.get? x = some (instObj c.C dx)) (h2 : h.get? dx = some (dictOf es n)) : InstAt h x (instObj c.C dx) c.C (some (dictOf es n)) := ⟨h1, rfl, rfl, h2⟩

inductive FieldOk : D → Str → D → Prop
  | first {i j : Int} {ls : List D} : FieldOk (.piece i j ls) "first" (.int i)
  | behind {i j : Int} {ls : List D} : FieldOk (.piece i j ls) "behind" (.int j)
  | levels {i j : Int} {ls : List D} : FieldOk (.piece i j ls) "levels" (.list ls)

/-- e.field -/
theorem Ev.field {fI fD : Addr} (K : ClsAt c fI fD) {e : Expr} {x : Str} {pos : Pos} (h : Ev c F l st e fun d st1 => ∃ r, FieldOk d x r ∧ Post r st1)
    (he : eval (.Attribute e x pos) F.env = (do
      let o ← eval e F.env
      standAt pos.atName
      let r ← holding [o] (getAttr o x true)
      letTemporaryGo e o r
      pure r) := by with_unfolding_all rfl) : Ev c F l st (.Attribute e x pos) Post := by
  intro A P ow m s Q E X k
  refine PyProof.Rows.Attribute_any_ (h A P ow m s _ E X fun v d n s' p X' iv e' => ?_) he
  obtain ⟨r, hr, p⟩ := p
  have XK : c.K.In s'.heap := c.KX.keeps X'.mid.base
  cases hr with
  | first =>
    obtain ⟨y, dx, es, nn, ti, tj, vl, rfl, g1, g2, n1, n2, e1, e2, e3, e4, il⟩ := iv.invPiece
    exact get_value XK (inst_at g1 g2) (plainGet_of K.pg).1 (findObj_own K.hd K.a1 rfl e1) rfl (k _ _ n _ p (X'.tok _) (.int _ _) e')
  | behind =>
    obtain ⟨y, dx, es, nn, ti, tj, vl, rfl, g1, g2, n1, n2, e1, e2, e3, e4, il⟩ := iv.invPiece
    exact get_value XK (inst_at g1 g2) (plainGet_of K.pg).1 (findObj_own K.hd K.a2 rfl e2) rfl (k _ _ n _ p (X'.tok _) (.int _ _) e')
  | levels =>
    obtain ⟨y, dx, es, nn, ti, tj, vl, rfl, g1, g2, n1, n2, e1, e2, e3, e4, il⟩ := iv.invPiece
    exact get_value XK (inst_at g1 g2) (plainGet_of K.pg).1 (findObj_own K.hd K.a3 rfl e3) il.handed (k _ _ n _ p (X'.tok _) il e')

/-- e.is_idle() -/
theorem Ev.idle {fI fD : Addr} (K : ClsAt c fI fD) {e : Expr} {ap cp : Pos} {o : Obj} {fd : FuncData} (ho : c.H0.get? fD = some o) (hd : o.data = .func fd)
    (h : Ev c F l st e fun d st1 => ∃ k b T, Fn c fD k b [d] T ∧ (∃ i j ls, d = .piece i j ls) ∧ k ≤ F.k ∧ st1.tb + b ≤ maxT ∧ ∀ r, T r → Post r { st1 with tb := st1.tb + b })
    (hm : eval (.Call (.Attribute e (Str.ofString "is_idle") ap) [] [] cp) F.env = (do
      let ov ← eval e F.env
      standAt ap.atName
      let (f, first) ← holding [ov] (getMethod ov (Str.ofString "is_idle") (do return (← importBound e F.env).getD true))
      callWith cp f first (backTo cp (starEach [] F.env)) []) := by rfl) : Ev c F l st (.Call (.Attribute e (Str.ofString "is_idle") ap) [] [] cp) Post := by
  intro A P ow m s Q E X k
  refine PyProof.Rows.MethodCall_ (h A P ow m s _ E X fun v d n s' p X' iv e' => ?_) hm
  obtain ⟨kk, b, T, hF, ⟨i, j, ls, rfl⟩, hk, hb, hT⟩ := p
  have XK : c.K.In s'.heap := c.KX.keeps X'.mid.base
  obtain ⟨y, dx, es, nn, ti, tj, vl, rfl, g1, g2, n1, n2, e1, e2, e3, e4, il⟩ := id iv.invPiece
  refine method_fn XK (inst_at g1 g2) (plainGet_of K.pg).1 (plainGet_of K.pg).2 K.idle K.idleF (by show (lookIn _ (dictOf es nn)).map _ = _; rw [lookIn_dict, e4]; rfl) ?_
  refine PyProof.Rows.callWith_meth0 hd (X'.mid.base _ _ ho) ?_
  have r := X'.wf.room
  refine hF F.A (Av F l A st ow) _ _ _ Q E ⟨r.1, by have := r.2.1; lia, by have := r.2.2; lia⟩ hb X'.mid (X.Avdk _) (X'.Avdc _) (fun a ha => ?_) (.cons iv .nil) fun v d s'' hd hm ex iv => ?_
  · rcases ha with ha | ⟨_, ha⟩
    · exact X'.Alt a ha
    · exact X'.Mex ha
  · have X'' := X'.step (h' := s''.heap) (tk := s''.toks) ex hm.deck
    have es : s'' = { s' with heap := s''.heap, toks := s''.toks } := by rw [hm.glob, X'.mid.glob]
    rw [← es] at X''
    exact k v d _ s'' (hT d hd) X'' iv (e'.trans ex)
end
end Mine

set_option maxRecDepth 100000
namespace Mine
open PySem PySem.W PyProof.Rows PySem.Calls

/-- fewer facts -/
structure Sub (st0 st : St) : Prop where
  vars : ∀ (i : Nat) (d : D), st0.vars[i]? = some (some d) → st.vars[i]? = some (some d)
  own : st0.own = st.own
  plain : st0.plain = st.plain
  tb : st.tb ≤ st0.tb
theorem Sub.refl (st : St) : Sub st st := ⟨fun _ _ h => h, rfl, rfl, Nat.le_refl _⟩
theorem Sub.trans {a b d : St} (x : Sub a b) (y : Sub b d) : Sub a d := ⟨fun i e h => y.vars i e (x.vars i e h), x.own.trans y.own, x.plain.trans y.plain, Nat.le_trans y.tb x.tb⟩

noncomputable def MmC (F : Fm) (a : Addr) : Prop := a = F.env.locals ∨ ∃ x, (x, a) ∈ F.own

noncomputable def turnForm (e : Expr) (depth : Nat) (tgt iter : Expr) (ifs : List Expr) (inner : Sem Unit) (it acc : Value) (env : Env) : Sem Fin := do
  standAt iter.pos
  match ← pyNext it with
  | none => pure (.done .next)
  | some v =>
    letOwnedTupleGo tgt it v
    assign tgt env v
    let mut ok := true
    for c in ifs do
      if ok then ok ← isTrue c env (eval c env)
    if ok then inner
    again (.compLoop e depth it acc env)

noncomputable def emit (D : Addr) (elt : Expr) (env : Env) : Sem Unit := do let _ ← call (.builtin "list.append") [.ref D, ← eval elt env]
noncomputable def gen2 (e : Expr) (D : Addr) (iter : Expr) (env : Env) : Sem Unit := do
  let x ← eval iter env
  standAt iter.pos
  let x ← foldedSetIterable iter env x
  let _ ← runOwn (.compStart e 1 (← holding [x] (pyIter x)) (.ref D) env) env

section
variable {c : Cx} {F : Fm} {A P : Addr → Prop} {st : St} {s : Shared} {m : Str → Option Value}

theorem Core.sub {ow : Addr} {st0 : St} (X : Core c F A P st s ow m) (h : Sub st0 st) : Core c F A P st0 s ow m := by
  obtain ⟨v0, o0, t0, p0⟩ := st0
  obtain ⟨h1, h2, h3, h4⟩ := h
  simp only at h2 h3 h4
  subst h2 h3
  exact (X.weak (vars := v0) (own := st.own) h1 (.inl rfl)).le h4

theorem Mm_none {ow : Addr} (h : st.own = Option.none) (a : Addr) : Mm F st ow a ↔ MmC F a := by
  unfold Mm MmC; rw [h]; simp

noncomputable def Cs (c : Cx) (F : Fm) (D₀ : Addr) (acc : List D) (st : St) (t : Sem Unit) (N : List D → St → Prop) : Prop :=
  ∀ (A P : Addr → Prop) (m : Str → Option Value) (s : Shared) (ws : List Value) (Q : Unit → Shared → Prop) (E : Value → Shared → Prop), Core c F A P st s 0 m → st.own = Option.none → A D₀ → P D₀ → c.H0.get? D₀ = none → s.heap.PlainList D₀ ws.toArray →
    IsAll c (fun a => A a ∨ MmC F a) s.heap ws acc →
    (∀ acc' st' m' s' ws', N acc' st' → st'.own = Option.none → Core c F A P st' s' 0 m' → s'.heap.PlainList D₀ ws'.toArray → IsAll c (fun a => A a ∨ MmC F a) s'.heap ws' acc' →
      (∀ a o, P a → a ≠ D₀ → s.heap.get? a = some o → s'.heap.get? a = some o) → Q () s') → wpAny (model c.prog c.w) F.A t Q E s

theorem PlainList.lt' {h : Heap} {a : Addr} {xs : Array Value} (x : h.PlainList a xs) : ∃ o, h.get? a = some o := by obtain ⟨n, e⟩ := x; exact ⟨_, e⟩
theorem Core.cellNe {ow : Addr} (X : Core c F A P st s ow m) {D₀ : Addr} {xs : Array Value} (h : s.heap.PlainList D₀ xs) : ∀ x cl, F.env.cells.lookup x = some cl → cl ≠ D₀ := by
  intro x cl hx q
  obtain ⟨v, o, e, hv⟩ := X.cells x cl hx
  obtain ⟨n, e2⟩ := h
  rw [q, e2] at e; cases e; cases hv

theorem Cs.emit {D₀ : Addr} {acc : List D} {elt : Expr} {N : List D → St → Prop} (hsz : acc.length ≤ 1000000) (h : Ev c F true st elt fun d st' => N (acc ++ [d]) st') : Cs c F D₀ acc st (emit D₀ elt F.env) N := by
  intro A P m s ws Q E X ho hA hP hlow hpl hall k
  unfold Mine.emit
  refine wpAny_bind (h A P 0 m s _ E X fun v d n s' p X' iv e' => ?_)
  have ndk : D₀ ≠ c.dk := fun q => X.Pdk (q ▸ hP)
  obtain ⟨nn, e0⟩ := id hpl
  have hpl' : s'.heap.PlainList D₀ ws.toArray := ⟨nn, e' _ _ e0 ndk⟩
  have hlen := hall.length
  refine wpAny_bind (wpAny_list_append_plain (hsz := by rw [List.size_toArray, sizeLine_eq]; lia) hpl' fun h' hpl2 hs' => wpAny_pure ?_)
  have e1 : ws.toArray.push v = (ws ++ [v]).toArray := by simp
  rw [e1] at hpl2
  have kN : ∀ a o, s'.heap.get? a = some o → ¬ (A a ∨ MmC F a) → h'.get? a = some o ∧ ¬ (A a ∨ MmC F a) := fun a o e n => ⟨(hs'.2 a (fun q => n (.inl (q ▸ hA)))).trans e, n⟩
  have X2 := X'.skip (A₂ := A) (P₂ := P) (wr := [D₀]) (h' := h') (tk := s'.toks) (by simpa using hA) (by simpa using hP) (by simpa using hlow) (fun b o hb e => (hs'.2 b (by simpa using hb)).trans e) (fun _ q => q) (fun _ q => q) X.Adk
    (fun b hb _ => by simp at hb; subst hb; exact PlainList.lt' hpl2) (fun x cl hx => by simpa using X'.cellNe hpl' x cl hx)
  refine k (acc ++ [d]) { st with tb := n } m _ (ws ++ [v]) p ho X2 hpl2 (((hall.ext1 e' (.inl X.Adk)).ext kN).append (.cons ((iv.mono fun a q => q.imp id fun q => ⟨rfl, (Mm_none ho a).mpr q⟩).ext kN) .nil)) ?_
  exact fun a o q hne e => (hs'.2 a hne).trans (e' a o e fun z => X.Pdk (z ▸ q))

noncomputable def TgA (c : Cx) (F : Fm) (st : St) (tgt : Expr) (x : D) (N : St → Prop) : Prop :=
  ∀ (A P : Addr → Prop) (m : Str → Option Value) (s : Shared) (v : Value) (Q : Unit → Shared → Prop) (E : Value → Shared → Prop), Core c F A P st s 0 m → st.own = Option.none → Is c (fun a => A a ∨ MmC F a) s.heap v x →
    (∀ st' m' s', N st' → st'.own = Option.none → Core c F A P st' s' 0 m' → Keep P s.heap s'.heap → Q () s') → wpAny (model c.prog c.w) F.A (assign tgt F.env v) Q E s
noncomputable def IfsT (c : Cx) (F : Fm) (st : St) (ifs : List Expr) (Post : Bool → St → Prop) : Prop :=
  match ifs with
  | [] => Post true st
  | [t] => Tst c F st t Post
  | _ => False

theorem TgA.name {x : Str} {px : Pos} {i : Nat} {k : NameKind} {d : D} {N : St → Prop} (hs : slotOf F.names x = some (i, k)) (hk : canStore F x k = true) (h : N (st.setv i d)) : TgA c F st (.Name x px) d N := by
  intro A P m s v Q E X ho iv kk
  refine wpAny_assign_Name (store_dat X (slotOf_get hs) hk (by unfold ownAt; rw [ho]; rfl) (iv.mono fun a q => q.imp id (Mm_none ho a).mp) fun h' tk m' X2 step => ?_)
  exact kk _ m' _ h ho X2 (SlotStep.keep X step)
theorem TgA.tup2 {x y : Str} {px py : Pos} {kk : Nat} {tp : Pos} {i j : Nat} {k k' : NameKind} {d e : D} {N : St → Prop} (hi : slotOf F.names x = some (i, k)) (hk : canStore F x k = true) (hj : slotOf F.names y = some (j, k')) (hk' : canStore F y k' = true)
    (h : N ((st.setv i d).setv j e)) : TgA c F st (.Tuple [.Name x px, .Name y py] kk tp) (.tup [d, e]) N := by
  intro A P m s v Q E X ho iv kk
  refine unpack2 X (iv.mono fun a q => q.imp id (Mm_none ho a).mp) hi hk (by unfold ownAt; rw [ho]; rfl) hj hk' (by unfold ownAt; rw [ho]; rfl) fun s2 m2 X2 kp => ?_
  exact kk _ m2 _ h ho X2 kp
theorem TgA.tup3 {x y z : Str} {px py pz : Pos} {kk : Nat} {tp : Pos} {i j l : Nat} {k k' k2 : NameKind} {d e f : D} {N : St → Prop} (hi : slotOf F.names x = some (i, k)) (hk : canStore F x k = true) (hj : slotOf F.names y = some (j, k')) (hk' : canStore F y k' = true)
    (hl : slotOf F.names z = some (l, k2)) (hk2 : canStore F z k2 = true)
    (h : N (((st.setv i d).setv j e).setv l f)) : TgA c F st (.Tuple [.Name x px, .Name y py, .Name z pz] kk tp) (.tup [d, e, f]) N := by
  intro A P m s v Q E X ho iv kk
  refine unpack3 X (iv.mono fun a q => q.imp id (Mm_none ho a).mp) hi hk (by unfold ownAt; rw [ho]; rfl) hj hk' (by unfold ownAt; rw [ho]; rfl) hl hk2 (by unfold ownAt; rw [ho]; rfl) fun s2 m2 X2 kp => ?_
  exact kk _ m2 _ h ho X2 kp

/-- the turns of one generator -/
noncomputable def CpT (c : Cx) (F : Fm) (D₀ : Addr) (tgt : Expr) (ifs : List Expr) (inner : Sem Unit) (N : List D → St → Prop) : List D → List D → St → Prop
  | [], acc, st => ∃ st0, Sub st0 st ∧ N acc st0
  | x :: xs, acc, st => ∃ st0, Sub st0 st ∧ TgA c F st0 tgt x fun st1 => IfsT c F st1 ifs fun b st2 => (b = true → Cs c F D₀ acc st2 inner fun acc' st3 => CpT c F D₀ tgt ifs inner N xs acc' st3) ∧ (b = false → CpT c F D₀ tgt ifs inner N xs acc st2)

theorem ifsWalk {ifs : List Expr} {Post : Bool → St → Prop} (h : IfsT c F st ifs Post) {Q : Bool → Shared → Prop} {E : Value → Shared → Prop} {ow : Addr} (X : Core c F A P st s ow m)
    (k : ∀ b n s', Post b { st with tb := n } → Core c F A P { st with tb := n } s' ow m → Ext1 c s.heap s'.heap → Q b s') :
    wpAny (model c.prog c.w) F.A (forIn ifs true fun c r => if r = true then do let ok ← isTrue c F.env (eval c F.env); pure (ForInStep.yield ok) else pure (ForInStep.yield r)) Q E s := by
  match ifs, h with
  | [], h => exact wpAny_tests_nil (k true st.tb s h X Ext1.refl)
  | [t], h => exact wpAny_tests_one (h A P ow m s Q E X k)

theorem comp_loop {elt : Expr} {gens : List Comprehension} {scope : Scope} {pos : Pos} {depth : Nat} {tgt iter : Expr} {ifs : List Expr} {inner : Sem Unit} {I D₀ : Addr} {fp wr : List Addr} {xs acc : List D} {Sn : Nat → Heap → Prop} {src : (Addr → Prop) → Heap → Prop} {N : List D → St → Prop} {ws : List Value} {RR : Result → Shared → Prop}
    (hturn : compTurn (.ListComp elt gens scope pos) depth (.ref I) (.ref D₀) F.env = turnForm (.ListComp elt gens scope pos) depth tgt iter ifs inner (.ref I) (.ref D₀) F.env)
    (W : Wk c F.A tgt I fp wr xs Sn src) (X : Core c F (Aw A wr) P st s 0 m) (ho : st.own = Option.none) (hSn : Sn 0 s.heap) (hsrc : src (fun a => Aw A wr a ∨ MmC F a) s.heap)
    (hA : A D₀) (hP : P D₀) (hlow : c.H0.get? D₀ = none) (hpl : s.heap.PlainList D₀ ws.toArray) (hall : IsAll c (fun a => Aw A wr a ∨ MmC F a) s.heap ws acc) (hAdk : A c.dk)
    (hwr : ∀ b ∈ wr, ¬ MmC F b ∧ b ≠ c.dk ∧ b ≠ D₀ ∧ c.H0.get? b = none ∧ ¬ A b ∧ ¬ P b) (hfp : ∀ b ∈ fp, b ∈ wr ∨ ((∃ o, s.heap.get? b = some o) ∧ ¬ MmC F b ∧ b ≠ c.dk ∧ b ≠ D₀))
    (hcellw : ∀ x cl, F.env.cells.lookup x = some cl → cl ∉ wr)
    (h : CpT c F D₀ tgt ifs inner N xs acc st)
    (k : ∀ acc' st' m' s' ws', N acc' st' → st'.own = Option.none → Core c F A P st' s' 0 m' → s'.heap.PlainList D₀ ws'.toArray → IsAll c (fun a => A a ∨ MmC F a) s'.heap ws' acc' →
      (∀ a o, P a → a ≠ D₀ → s.heap.get? a = some o → s'.heap.get? a = some o) → RR (.ok .next) s') :
    codeAny (model c.prog c.w) F.A (.compLoop (.ListComp elt gens scope pos) depth (.ref I) (.ref D₀) F.env) RR s := by
  let R : Addr → Prop := fun a => (∃ o, s.heap.get? a = some o) ∧ ¬ MmC F a ∧ a ≠ c.dk ∧ a ≠ D₀
  have wrR : ∀ b ∈ wr, R b := fun b hb => ⟨W.ex 0 _ hSn b hb, (hwr b hb).1, (hwr b hb).2.1, (hwr b hb).2.2.1⟩
  have fpR : ∀ b ∈ fp, R b := fun b hb => (hfp b hb).elim (wrR b) id
  have X1 := X.guard (R := R) fun a q => ⟨fun z => q.2.1 ((Mm_none ho a).mp z), q.2.2.1, q.1⟩
  let J : Nat → Shared → Prop := fun k s₁ => ∃ i st₁ m₁ acc₁ ws₁, k = xs.length - i ∧ i ≤ xs.length ∧ st₁.own = Option.none ∧ CpT c F D₀ tgt ifs inner N (xs.drop i) acc₁ st₁ ∧ Core c F (Aw A wr) (fun a => P a ∨ R a) st₁ s₁ 0 m₁ ∧ Sn i s₁.heap ∧
    s₁.heap.PlainList D₀ ws₁.toArray ∧ IsAll c (fun a => Aw A wr a ∨ MmC F a) s₁.heap ws₁ acc₁ ∧
    (∀ a o, R a → a ∉ wr → s.heap.get? a = some o → s₁.heap.get? a = some o) ∧ (∀ a o, P a → a ≠ D₀ → s.heap.get? a = some o → s₁.heap.get? a = some o)
  refine codeAny_loop rfl J ?_ xs.length ⟨0, st, m, acc, ws, rfl, Nat.zero_le _, ho, h, X1, hSn, hpl, hall, fun _ _ _ _ e => e, fun _ _ _ _ e => e⟩
  rintro k0 s₁ ⟨i, st₁, m₁, acc₁, ws₁, rfl, hi, ho₁, hT, Y, hSi, hpl₁, hall₁, hK, hKP⟩
  show wpAny _ F.A ((compTurn (.ListComp elt gens scope pos) depth (.ref I) (.ref D₀) F.env).onRaise (fun x => do noteFrame x F.env; theTreesLotGoes x)) _ _ s₁
  refine wpAny_noted ?_
  rw [hturn]
  have hwA : ∀ b ∈ wr, Aw A wr b := fun b hb => .inr hb
  have hwP : ∀ b ∈ wr, P b ∨ R b := fun b hb => .inr (wrR b hb)
  have hlw : ∀ b ∈ wr, c.H0.get? b = none := fun b hb => (hwr b hb).2.2.2.1
  have Dnw : D₀ ∉ wr := fun q => (hwr _ q).2.2.1 rfl
  have ndk : D₀ ≠ c.dk := fun q => X.Pdk (q ▸ hP)
  let FQ : Fin → Shared → Prop := fun fin s' => match fin with | .done f => RR (.ok f) s' | .again c' => c' = .compLoop (.ListComp elt gens scope pos) depth (.ref I) (.ref D₀) F.env ∧ ∃ m, m < xs.length - i ∧ J m s'
  let EE := notedBy (model c.prog c.w) F.A F.env fun e s' => RR (.error e) s'
  let KK : Value → Shared → Prop := fun v s₂ => wpAny (model c.prog c.w) F.A (PySem.assign tgt F.env v) (fun _ s₃ => wpAny (model c.prog c.w) F.A (forIn ifs true fun c r => if r = true then do let ok ← isTrue c F.env (eval c F.env); pure (ForInStep.yield ok) else pure (ForInStep.yield r))
    (fun ok s₄ => if ok = true then wpAny (model c.prog c.w) F.A inner (fun _ s₅ => ∃ m, m < xs.length - i ∧ J m s₅) EE s₄ else ∃ m, m < xs.length - i ∧ J m s₄) EE s₃) EE s₂
  unfold turnForm
  refine wpAny_bind (wpAny_standAt (wpAny_bind (wpAny_mono (Q := fun r s₂ => match r with | none => RR (.ok .next) s₂ | some v => wpAny (model c.prog c.w) F.A (letOwnedTupleGo tgt (.ref I) v) (fun _ s₃ => KK v s₃) EE s₂) ?_ (fun r s₂ h₂ => ?_) fun _ _ e => e)))
  · cases hx : xs[i]? with
    | none =>
      have hlen : i = xs.length := by have := List.getElem?_eq_none_iff.mp hx; lia
      rw [hlen] at hT hSi
      rw [List.drop_length] at hT
      obtain ⟨st0, hsub, hN⟩ := hT
      refine W.done s₁ KK (fun s₂ => RR (.ok .next) s₂) EE hSi fun h' tk hk => ?_
      have kD : ∀ o, s₁.heap.get? D₀ = some o → h'.get? D₀ = some o := fun o e => hk _ _ Dnw e
      obtain ⟨nn, e0⟩ := id hpl₁
      refine k acc₁ st0 m₁ { s₁ with heap := h', toks := tk } ws₁ hN (hsub.own.trans ho₁) ((Y.skip (A₂ := A) (P₂ := P) hwA hwP hlw hk (fun a q => .inl q) (fun a q => .inl q) hAdk (fun b hb q => absurd q fun q => q.elim (hwr b hb).2.2.2.2.1 (hwr b hb).2.2.2.2.2) hcellw).sub hsub) ⟨nn, kD _ e0⟩ ?_ ?_
      · exact hall₁.ext fun a o e n => ⟨hk a o (fun q => n (.inl (.inr q))) e, fun q => n (q.imp .inl id)⟩
      · exact fun a o q hne e => hk a o (fun z => (hwr a z).2.2.2.2.2 q) (hKP a o q hne e)
    | some x =>
      have hlt : i < xs.length := (List.getElem?_eq_some_iff.mp hx).1
      have hdrop : xs.drop i = x :: xs.drop (i + 1) := by
        rw [List.drop_eq_getElem_cons hlt]; congr 1; exact (List.getElem?_eq_some_iff.mp hx).2
      rw [hdrop] at hT
      obtain ⟨st0, hsub, hT⟩ := hT
      have ho0 : st0.own = Option.none := hsub.own.trans ho₁
      have hsrc1 : src (fun a => Aw A wr a ∨ MmC F a) s₁.heap := W.smono _ _ _ _ hsrc fun a o e n => by
        refine ⟨hK a o ⟨⟨o, e⟩, fun q => n (.inr q), fun q => n (.inl (q ▸ .inl hAdk)), fun q => n (.inl (q ▸ .inl hA))⟩ (fun q => n (.inl (.inr q))) e, n⟩
      refine W.step i x (fun a => Aw A wr a ∨ MmC F a) s₁ KK (fun s₂ => RR (.ok .next) s₂) EE hx hSi hsrc1 (fun b hb => .inl (.inr hb)) (fun a q => q.elim (Y.Alt a) fun q => Y.Mex ((Mm_none ho₁ a).mpr q)) fun v h' tk hS' hk iv => ?_
      have Y' := (Y.skip (tk := tk) hwA hwP hlw hk (fun a q => q) (fun a q => q) (.inl hAdk) (fun b hb _ => W.ex _ _ hS' b hb) hcellw).sub hsub
      obtain ⟨nn, e0⟩ := id hpl₁
      have e1 : h'.get? D₀ = some _ := hk _ _ Dnw e0
      have hall' : IsAll c (fun a => Aw A wr a ∨ MmC F a) h' ws₁ acc₁ := hall₁.ext fun a o e n => ⟨hk a o (fun q => n (.inl (.inr q))) e, n⟩
      have Y2 := Y'.guard (R := fun a => (∃ o, h'.get? a = some o) ∧ ¬ MmC F a ∧ a ≠ c.dk) fun a q => ⟨fun z => q.2.1 ((Mm_none ho0 a).mp z), q.2.2, q.1⟩
      refine hT _ _ m₁ _ v _ EE Y2 ho0 iv fun st2 m2 s2 hI ho2 Z2 kp2 => ?_
      have nMD : ¬ MmC F D₀ := fun q => Y2.PM D₀ (.inl (.inl hP)) ((Mm_none ho0 D₀).mpr q)
      have hall2 : IsAll c (fun a => Aw A wr a ∨ MmC F a) s2.heap ws₁ acc₁ := hall'.ext fun a o e n => ⟨kp2 a o (.inr ⟨⟨o, e⟩, fun q => n (.inr q), fun q => n (.inl (q ▸ .inl hAdk))⟩) e, n⟩
      have e2 : s2.heap.get? D₀ = some _ := kp2 _ _ (.inr ⟨⟨_, e1⟩, nMD, ndk⟩) e1
      have Z2' := Z2.less (A := Aw A wr) (P := fun a => P a ∨ R a) (fun _ q => q) (fun _ q => .inl q) (.inl hAdk)
      have hR2 : ∀ a o, R a → a ∉ wr → s.heap.get? a = some o → s2.heap.get? a = some o := fun a o q hw e => kp2 a o (.inl (.inr q)) (hk a o hw (hK a o q hw e))
      have hP2 : ∀ a o, P a → a ≠ D₀ → s.heap.get? a = some o → s2.heap.get? a = some o := fun a o q hne e => kp2 a o (.inl (.inl q)) (hk a o (fun z => (hwr a z).2.2.2.2.2 q) (hKP a o q hne e))
      have hS2 : Sn (i + 1) s2.heap := W.frame _ _ _ hS' fun b hb o e => kp2 b o (.inl (.inr (fpR b hb))) e
      refine ifsWalk hI Z2' fun b n s3 hb Z3 e3 => ?_
      have hall3 := hall2.ext1 e3 (.inl (.inl hAdk))
      have e3' : s3.heap.get? D₀ = some _ := e3 _ _ e2 ndk
      have hR3 : ∀ a o, R a → a ∉ wr → s.heap.get? a = some o → s3.heap.get? a = some o := fun a o q hw e => e3 a o (hR2 a o q hw e) q.2.2.1
      have hP3 : ∀ a o, P a → a ≠ D₀ → s.heap.get? a = some o → s3.heap.get? a = some o := fun a o q hne e => e3 a o (hP2 a o q hne e) fun z => X.Pdk (z ▸ q)
      have hS3 : Sn (i + 1) s3.heap := W.frame _ _ _ hS2 fun b hb o e => e3 b o e (fpR b hb).2.2.1
      cases b with
      | false =>
        refine ⟨xs.length - (i + 1), by lia, i + 1, { st2 with tb := n }, m2, acc₁, ws₁, rfl, hlt, ho2, hb.2 rfl, Z3, hS3, ⟨nn, e3'⟩, hall3, hR3, hP3⟩
      | true =>
        refine hb.1 rfl _ _ m2 s3 ws₁ _ EE Z3 ho2 (.inl hA) (.inl hP) hlow ⟨nn, e3'⟩ hall3 fun acc' st' m' s' ws' pp ho' Z' hpl' hall' kp' => ?_
        refine ⟨xs.length - (i + 1), by lia, i + 1, st', m', acc', ws', rfl, hlt, ho', pp, Z', W.frame _ _ _ hS3 fun b hb o e => kp' b o (.inr (fpR b hb)) (fpR b hb).2.2.2 e, hpl', hall', ?_, ?_⟩
        · exact fun a o q hw e => kp' a o (.inr q) q.2.2.2 (hR3 a o q hw e)
        · exact fun a o q hne e => kp' a o (.inl q) hne (hP3 a o q hne e)
  · cases r with
    | none => exact wpAny_pure h₂
    | some v =>
      refine wpAny_bind (wpAny_mono h₂ (fun _ s₃ h₃ => wpAny_bind (wpAny_mono h₃ (fun _ s₄ h₄ => wpAny_bind (wpAny_mono h₄ (fun ok s₅ h₅ => ?_) fun _ _ h' => h')) fun _ _ h' => h')) fun _ _ h' => h')
      cases ok with
      | false => exact wpAny_pure ⟨rfl, h₅⟩
      | true =>
        refine wpAny_bind (wpAny_mono (by simpa using h₅) (fun _ s₆ h₆ => wpAny_pure ⟨rfl, h₆⟩) fun _ _ h' => h')
end
end Mine

set_option maxRecDepth 100000
namespace Mine
open PySem PySem.W PyProof.Rows PySem.Calls

noncomputable def clos (cells : List (Str × Addr)) : List (Str × NameKind) → List (Str × Addr) → List (Str × Addr)
  | [], acc => acc
  | (n, k) :: r, acc => if k == .free then (match cells.lookup n with | some a => clos cells r ((n, a) :: acc) | none => clos cells r acc) else clos cells r acc

theorem forIn_clos {env : Env} (f : Str × NameKind → List (Str × Addr) → Sem (ForInStep (List (Str × Addr))))
    (hf : ∀ n k cs, f (n, k) cs = if k == .free then (do let a ← cellOf env n; pure (.yield ((n, a) :: cs))) else pure (.yield cs)) :
    ∀ (names : List (Str × NameKind)) (acc : List (Str × Addr)), (∀ n, (n, NameKind.free) ∈ names → ∃ a, env.cells.lookup n = some a) → (forIn names acc f : Sem _) = pure (clos env.cells names acc)
  | [], acc, _ => by rw [List.forIn_nil]; rfl
  | (n, k) :: r, acc, h => by
    rw [List.forIn_cons, hf]
    have ih := fun acc => forIn_clos f hf r acc fun n hn => h n (.tail _ hn)
    unfold clos
    by_cases q : (k == NameKind.free) = true
    · have q' : k = .free := by simpa using q
      subst q'
      obtain ⟨a, ha⟩ := h n (.head _)
      simp [cellOf, ha, ih]
    · simp [q, ih]
theorem closureFor_eq {scope : Scope} {env : Env} (h : ∀ n, (n, NameKind.free) ∈ scope.names → ∃ a, env.cells.lookup n = some a) : closureFor scope env = pure (clos env.cells scope.names []) := by
  simp only [closureFor]
  rw [forIn_clos (env := env) _ (fun n k cs => by cases q : (k == NameKind.free) <;> simp [q]) scope.names [] h]
  rfl

theorem clos_mem {cells : List (Str × Addr)} : ∀ {names : List (Str × NameKind)} {acc : List (Str × Addr)} {x : Str} {a : Addr}, (x, a) ∈ clos cells names acc → (x, a) ∈ acc ∨ (cells.lookup x = some a ∧ (x, NameKind.free) ∈ names)
  | [], acc, x, a, h => .inl h
  | (n, k) :: r, acc, x, a, h => by
    unfold clos at h
    by_cases q : (k == NameKind.free) = true
    · have q' : k = .free := by simpa using q
      subst q'
      rw [if_pos q] at h
      split at h
      · rename_i b hb
        rcases clos_mem h with h | h
        · rcases List.mem_cons.mp h with e | h
          · cases e; exact .inr ⟨hb, .head _⟩
          · exact .inl h
        · exact .inr ⟨h.1, .tail _ h.2⟩
      · rcases clos_mem h with h | h
        · exact .inl h
        · exact .inr ⟨h.1, .tail _ h.2⟩
    · rw [if_neg q] at h
      rcases clos_mem h with h | h
      · exact .inl h
      · exact .inr ⟨h.1, .tail _ h.2⟩
theorem clos_has {cells : List (Str × Addr)} : ∀ {names : List (Str × NameKind)} {acc : List (Str × Addr)} {x : Str} {a : Addr}, cells.lookup x = some a → ((x, a) ∈ acc ∨ (x, NameKind.free) ∈ names) → (x, a) ∈ clos cells names acc
  | [], acc, x, a, _, h => h.elim id (fun h => nomatch h)
  | (n, k) :: r, acc, x, a, hx, h => by
    unfold clos
    by_cases q : (k == NameKind.free) = true
    · rw [if_pos q]
      rcases h with h | h
      · split
        · exact clos_has hx (.inl (.tail _ h))
        · exact clos_has hx (.inl h)
      · rcases List.mem_cons.mp h with e | h
        · cases e; rw [hx]; exact clos_has hx (.inl (.head _))
        · split
          · exact clos_has hx (.inr h)
          · exact clos_has hx (.inr h)
    · rw [if_neg q]
      rcases h with h | h
      · exact clos_has hx (.inl h)
      · rcases List.mem_cons.mp h with e | h
        · cases e; exact absurd rfl q
        · exact clos_has hx (.inr h)
theorem cellsFrom_app : ∀ (names : List (Str × NameKind)) (n : Nat) (acc : List (Str × Addr)), cellsFrom n names acc = cellsFrom n names [] ++ acc
  | [], _, _ => rfl
  | (x, k) :: r, n, acc => by
    unfold cellsFrom
    split
    · rw [cellsFrom_app r (n + 1) ((x, n) :: acc), cellsFrom_app r (n + 1) [(x, n)]]; simp
    · exact cellsFrom_app r n acc
theorem cellsFrom_mem : ∀ {names : List (Str × NameKind)} {n : Nat} {x : Str} {a : Addr}, (x, a) ∈ cellsFrom n names [] → (x, NameKind.cell) ∈ names
  | [], _, _, _, h => nomatch h
  | (y, k) :: r, n, x, a, h => by
    unfold cellsFrom at h
    split at h
    · rename_i q
      rw [cellsFrom_app] at h
      rcases List.mem_append.mp h with h | h
      · exact .tail _ (cellsFrom_mem h)
      · simp at h; rw [h.1]; have q' : k = .cell := by simpa using q
        subst q'; exact .head _
    · exact .tail _ (cellsFrom_mem h)
theorem cellsFrom_nodup : ∀ {names : List (Str × NameKind)} {n : Nat}, (names.map (·.1)).Nodup → ∀ {x : Str} {a b : Addr}, (x, a) ∈ cellsFrom n names [] → (x, b) ∈ cellsFrom n names [] → a = b
  | [], _, _, _, _, _, h, _ => nomatch h
  | (y, k) :: r, n, hn, x, a, b, h, h' => by
    simp only [List.map_cons, List.nodup_cons] at hn
    unfold cellsFrom at h h'
    split at h
    · rename_i q
      rw [if_pos q] at h'
      rw [cellsFrom_app] at h h'
      have no : ∀ {z}, (y, z) ∈ cellsFrom (n + 1) r [] → False := fun hz => hn.1 (List.mem_map.mpr ⟨_, cellsFrom_mem hz, rfl⟩)
      rcases List.mem_append.mp h with h | h <;> rcases List.mem_append.mp h' with h' | h'
      · exact cellsFrom_nodup hn.2 h h'
      · simp at h'; rw [h'.1] at h; exact (no h).elim
      · simp at h; rw [h.1] at h'; exact (no h').elim
      · simp at h h'; rw [h.2, h'.2]
    · rename_i q
      rw [if_neg q] at h'
      exact cellsFrom_nodup hn.2 h h'
theorem lookup_uniq {α : Type} {l : List (Str × α)} {x : Str} {a : α} (h : (x, a) ∈ l) (hu : ∀ b, (x, b) ∈ l → b = a) : l.lookup x = some a := by
  cases q : l.lookup x with
  | none =>
    exfalso
    induction l with
    | nil => cases h
    | cons y l ih =>
      obtain ⟨y1, y2⟩ := y
      rw [List.lookup_cons] at q
      cases qq : x == y1 with
      | true => rw [qq] at q; cases q
      | false =>
        rw [qq] at q
        rcases List.mem_cons.mp h with e | h
        · cases e; simp at qq
        · exact ih h (fun b hb => hu b (.tail _ hb)) q
  | some b => rw [hu b (PySem.mem_of_lookup q)]

noncomputable def relN (names sn : List (Str × NameKind)) : List (Str × NameKind) := sn.map fun p => if p.2 == .free && names.lookup p.1 == some .cell then (p.1, .cell) else p
noncomputable def compV (names : List (Str × NameKind)) (vars : List (Option D)) (sn : List (Str × NameKind)) : List (Option D) := sn.map fun p => if p.2 == .free then look names vars p.1 else Option.none
noncomputable def compOk (names : List (Str × NameKind)) (vars : List (Option D)) (sn : List (Str × NameKind)) : Bool := sn.all fun p => p.2 != .free || ((names.lookup p.1 == some .cell || names.lookup p.1 == some .free) && (look names vars p.1).isSome)

@[reducible] noncomputable def Fc (F : Fm) (scope : Scope) (cl : List (Str × Addr)) (C : Addr) : Fm :=
  ⟨{ scope := { scope with names := relN F.names scope.names }, locals := C, globals := F.env.globals, cells := cellsFrom (C + 1) scope.names cl, qual := F.env.qual, func := none, code := F.env.code, frame := F.env.frame, builtins := F.env.builtins }, F.A, F.k, relN F.names scope.names, cellsFrom (C + 1) scope.names []⟩

theorem relN_fst (names sn : List (Str × NameKind)) : (relN names sn).map (·.1) = sn.map (·.1) := by
  unfold relN; rw [List.map_map]; congr 1; funext p; simp only [Function.comp]; split <;> rfl

section
variable {c : Cx} {F : Fm} {l : Bool} {A P : Addr → Prop} {st : St} {s : Shared} {ow : Addr} {m : Str → Option Value}

theorem relabel_eq (w : Wf c F) (scope : Scope) : relabel scope F.env = { scope with names := relN F.names scope.names } := by
  have e : ∀ n, F.env.kindOf n = F.names.lookup n := fun n => by rw [← w.names]; rfl
  unfold relabel relN
  congr 1
  apply List.map_congr_left
  rintro ⟨n, k⟩ _
  simp only [e, w.kind]
  simp

theorem wpAny_newCompEnv {scope : Scope} {globals : Addr} {cl : List (Str × Addr)} {qual : Str} {env : Env} {Q : Env → Shared → Prop} {E : Value → Shared → Prop} {B : Around}
    (h : Q { scope, locals := s.heap.objs.size, globals, cells := cellsFrom (s.heap.objs.size + 1) scope.names cl, qual, func := none, code := env.code, frame := env.frame, builtins := env.builtins }
      { s with heap := pushCells (s.heap.push { cls := .type "dict", data := .dict #[] }) scope.names }) :
    wpAny (model c.prog c.w) B (newFunctionEnv scope globals cl [] qual none .none (some env)) Q E s := by
  simp only [newFunctionEnv, Option.isSome_some, if_true]
  refine wpAny_bind (wpAny_alloc ?_)
  refine wpAny_bind (wpAny_layCells _ (fun name kind cells => by cases hkc : kind == NameKind.cell <;> simp [hkc]) _ _ _ _ ?_)
  rw [show ({ s with heap := s.heap.push { cls := .type "dict", data := .dict #[] } } : Shared).heap.objs.size = s.heap.objs.size + 1 from Heap.size_push ..]
  simp only [List.forIn_nil]
  exact wpAny_bind (wpAny_pure (wpAny_pure h))

/-- a step with more to avoid -/
theorem Core.moreStep (X : Core c F A P st s ow m) {B R : Addr → Prop} {h' : Heap} {tk n : Nat} (k : Ext1 c s.heap h') (hd : DeckAt c n h') (hB : ∀ a, B a → s.heap.get? a = none ∧ ∃ o, h'.get? a = some o)
    (hR : ∀ a, R a → ¬ Mm F st ow a ∧ a ≠ c.dk ∧ ∃ o, h'.get? a = some o) : Core c F (fun a => A a ∨ B a) (fun a => P a ∨ R a) { st with tb := n } { s with heap := h', toks := tk } ow m := by
  have Y := X.step (tk := tk) k hd
  have nB : ∀ {a o}, s.heap.get? a = some o → ¬ B a := fun e q => by rw [(hB _ q).1] at e; cases e
  have kN : ∀ a o, s.heap.get? a = some o → ¬ (A a ∨ Mm F st ow a) → h'.get? a = some o ∧ ¬ ((A a ∨ B a) ∨ Mm F st ow a) := fun a o e n => ⟨k a o e fun q => n (.inl (q ▸ X.Adk)), fun q => by
    rcases q with (q | q) | q
    · exact n (.inl q)
    · exact nB e q
    · exact n (.inr q)⟩
  have kc : ∀ {a v}, s.heap.IsCell a v → h'.IsCell a v := fun {a v} ⟨o, e, e2⟩ => ⟨o, k a o e (fun q => by
    obtain ⟨_, _, _, _, _, ⟨o2, h3, _, n, h4⟩, _⟩ := X.mid.deck
    rw [q, h3] at e; cases e; rw [h4] at e2; cases e2), e2⟩
  refine ⟨Y.wf, Y.mid, Y.ns, Y.cells, .inl Y.Adk, fun q => q.elim Y.Adc fun q => ?_, fun q => q.elim Y.Pdk fun q => (hR _ q).2.1 rfl, fun a q => q.elim (Y.Alt a) fun q => (hB a q).2, fun a q => q.elim (Y.Plt a) fun q => (hR a q).2.2,
    fun a q => q.elim (X.PM a) fun q => (hR a q).1, fun i d hi => ?_, fun i d hi => ?_⟩
  · obtain ⟨o, e⟩ := X.dcex; exact nB e q
  · obtain ⟨x, kk, v, hn, hh, iv⟩ := X.var i d hi
    refine ⟨x, kk, v, hn, ?_, iv.ext kN⟩
    rcases hh with hh | ⟨a1, cl, a2, e, a3⟩
    · exact .inl hh
    · exact .inr ⟨a1, cl, a2, kc e, a3⟩
  · obtain ⟨⟨x, kk, hn, hh⟩, ho, h1, h2, h3, h4, h5⟩ := X.ovar i d hi
    obtain ⟨oo, hoo⟩ := X.Mex (a := ow) (.inr (.inr ⟨by rw [hi]; rfl, rfl⟩))
    refine ⟨⟨x, kk, hn, ?_⟩, ho.ext (fun o e => k _ _ e fun q => h1 (q ▸ X.Adk)) kN, fun q => q.elim h1 (nB hoo), h2, h3, h4, h5⟩
    rcases hh with hh | ⟨a1, cl, a2, e, a3⟩
    · exact .inl hh
    · exact .inr ⟨a1, cl, a2, kc e, a3⟩

/-- the second generator -/
theorem codeAny_compStart_any {elt : Expr} {gens : List Comprehension} {g : Comprehension} {depth : Nat} {scope : Scope} {pos : Pos} {it acc : Value} {env : Env} {B : Around} {R : Result → Shared → Prop} (hg : gens[depth]? = some g) (ha : g.is_async = 0)
    (h0 : codeAny (model c.prog c.w) B (.compLoop (.ListComp elt gens scope pos) depth it acc env) R s)
    (h : wpAny (model c.prog c.w) B (pyIter it) (fun it' s' => codeAny (model c.prog c.w) B (.compLoop (.ListComp elt gens scope pos) depth it' acc env) R s')
      (notedBy (model c.prog c.w) B env fun x s' => R (.error x) s') s) :
    codeAny (model c.prog c.w) B (.compStart (.ListComp elt gens scope pos) depth it acc env) R s := by
  refine codeAny_of_tree ?_
  show wpAny _ _ ((compStart (.ListComp elt gens scope pos) depth it acc env).onRaise (fun x => do noteFrame x env; standAt theWindowsPlace)) _ _ s
  refine wpAny_notedAt ?_
  unfold compStart
  have e : (clausesOf (.ListComp elt gens scope pos))[depth]? = some g := hg
  simp only [e, Option.elim_some, ha, bne_self_eq_false, Bool.false_eq_true, if_false]
  refine wpAny_bind (wpAny_askSetting (wpAny_ite ?_))
  split
  · exact wpAny_bind (wpAny_pure (wpAny_pure (And.intro rfl h0)))
  · exact wpAny_bind (wpAny_rule (wpAny_bind (wpAny_standAt (wpAny_bind (wpAny_mono h (fun it' s' h' => wpAny_pure (And.intro rfl h')) fun _ _ x => x)))))
end
end Mine

set_option maxRecDepth 100000
namespace Mine
open PySem PySem.W PyProof.Rows PySem.Calls

section
variable {c : Cx} {F : Fm} {l : Bool} {A P : Addr → Prop} {st : St} {s : Shared} {ow : Addr} {m : Str → Option Value}

theorem Cs.gen2 {D₀ : Addr} {acc : List D} {elt t1 i1 t2 i2 : Expr} {f1 f2 : List Expr} {scope : Scope} {pos : Pos} {N : List D → St → Prop}
    (h : It c F st t2 i2 true fun xs st' => CpT c F D₀ t2 f2 (Mine.emit D₀ elt F.env) N xs acc st') (hs : ∀ x, foldedSetIterable i2 F.env x = pure x := by intro _; rfl) :
    Cs c F D₀ acc st (Mine.gen2 (.ListComp elt [⟨t1, i1, f1, 0⟩, ⟨t2, i2, f2, 0⟩] scope pos) D₀ i2 F.env) N := by
  intro A P m s ws Q E X ho hA hP hlow hpl hall k
  have hq := h A P 0 m s
  unfold Mine.gen2
  refine wpAny_bind (wpAny_mono (h A P 0 m s (fun it s2 => codeAny (model c.prog c.w) F.A (.compStart (.ListComp elt [⟨t1, i1, f1, 0⟩, ⟨t2, i2, f2, 0⟩] scope pos) 1 it (.ref D₀) F.env) (fun r s' => match r with | .ok f => Q () s' | .error e => cameBackBy (model c.prog c.w) F.A F.env E e s') s2) E X
    fun xs n I fp wr Sn src s2 p X2 e2 W hSn hsrc hwr hfp => ?_) (fun x s1 h1 => ?_) fun _ _ e => e)
  · have ndk : D₀ ≠ c.dk := fun q => X.Pdk (q ▸ hP)
    obtain ⟨nn, e0⟩ := id hpl
    have e0' : s2.heap.get? D₀ = some _ := e2 _ _ e0 ndk
    have nMD : ¬ MmC F D₀ := fun q => X.PM D₀ hP ((Mm_none ho D₀).mpr q)
    have hloop : codeAny (model c.prog c.w) F.A (.compLoop (.ListComp elt [⟨t1, i1, f1, 0⟩, ⟨t2, i2, f2, 0⟩] scope pos) 1 (.ref I) (.ref D₀) F.env) (fun r s' => match r with | .ok f => Q () s' | .error e => cameBackBy (model c.prog c.w) F.A F.env E e s') s2 := by
      refine comp_loop (A := A) (P := P) (st := { st with tb := n }) (m := m) (iter := i2) (by rfl) W X2 ho hSn (W.smono _ _ _ _ hsrc fun a o e nn => ⟨e, fun q => nn (q.imp id fun q => ⟨rfl, (Mm_none (st := st) ho a).mpr q⟩)⟩) hA hP hlow ⟨nn, e0'⟩
        (hall.ext fun a o e nn => ⟨e2 a o e fun q => nn (.inl (q ▸ X.Adk)), fun q => q.elim (fun q => q.elim (fun q => nn (.inl q)) fun q => by rw [hwr a q] at e; cases e) fun q => nn (.inr q)⟩) X.Adk (fun b hb => ?_) (fun b hb => ?_) (fun x cl hx hb => ?_) p (fun acc' st' m' s' ws' hN ho' Z hpl' hall' kp => ?_)
      · have hn := hwr b hb
        refine ⟨fun q => ?_, fun q => ?_, fun q => ?_, none_before (fun o e => ⟨o, X.mid.base b o e⟩) hn, fun q => ?_, fun q => ?_⟩
        · obtain ⟨o, e⟩ := X.Mex ((Mm_none ho b).mpr q); rw [hn] at e; cases e
        · obtain ⟨o, e⟩ := X.dkex; rw [← q, hn] at e; cases e
        · rw [q, e0] at hn; cases hn
        · obtain ⟨o, e⟩ := X.Alt b q; rw [hn] at e; cases e
        · obtain ⟨o, e⟩ := X.Plt b q; rw [hn] at e; cases e
      · refine (hfp b hb).imp id fun q => ⟨q.1, fun z => q.2 (.inr ⟨rfl, (Mm_none ho b).mpr z⟩), fun z => q.2 (.inl (z ▸ X.Adk)), fun z => q.2 (.inl (z ▸ hA))⟩
      · obtain ⟨v, o, e, hv⟩ := X.cells x cl hx
        rw [hwr cl hb] at e; cases e
      · exact k acc' st' m' s' ws' hN ho' Z hpl' hall' fun a o q hne e => kp a o q hne (e2 a o e fun z => X.Pdk (z ▸ q))
    exact codeAny_compStart_any (g := ⟨t2, i2, f2, 0⟩) rfl rfl hloop (W.self 0 _ _ _ hSn hloop)
  · refine wpAny_bind (wpAny_standAt (wpAny_bind (wpAny_of_eq (hs x) (wpAny_bind (wpAny_holding (wpAny_mono h1 (fun it s2 h2 => ?_) fun _ _ e => e))))))
    exact wpAny_bind (wpAny_runOwn (codeAny_mono h2 fun r s' hr => by
      cases r with
      | ok f => exact wpAny_pure hr
      | error e => exact hr))

theorem compOk_of {names : List (Str × NameKind)} {vars : List (Option D)} {sn : List (Str × NameKind)} (h : compOk names vars sn = true) {x : Str} (hx : (x, NameKind.free) ∈ sn) : (names.lookup x = some .cell ∨ names.lookup x = some .free) ∧ ∃ d, look names vars x = some d := by
  have := List.all_eq_true.mp h _ hx
  simp at this
  exact ⟨this.1, Option.isSome_iff_exists.mp this.2⟩

/-- what a comprehension leaves behind -/
structure Left (c : Cx) (F : Fm) (l : Bool) (A : Addr → Prop) (st : St) (ow : Addr) (s : Shared) (D₀ C : Addr) (ds : List D) (n : Nat) (s' : Shared) : Prop where
  Dn : s.heap.get? D₀ = none
  Cn : s.heap.get? C = none
  ne : D₀ ≠ C
  ns : ∃ m, s'.heap.Ns C m
  pl : ∃ ws : List Value, s'.heap.PlainList D₀ ws.toArray ∧ IsAll c (fun a => Av F l A st ow a ∨ a = D₀ ∨ a = C) s'.heap ws ds
  ext : Ext1 c s.heap s'.heap
  mid : Mid c n s'

theorem comp_walk {elt tgt iter : Expr} {ifs : List Expr} {gs : List Comprehension} {scope : Scope} {pos pos' : Pos} {inner : Addr → Env → Sem Unit} {use : Option (Value → Sem Unit)} {Post : D → St → Prop} {Q : Value → Shared → Prop} {E : Value → Shared → Prop}
    (hturn : ∀ (env : Env) (it : Value) (D₀ : Addr), compTurn (.ListComp elt (⟨tgt, iter, ifs, 0⟩ :: gs) scope pos) 0 it (.ref D₀) env = turnForm (.ListComp elt (⟨tgt, iter, ifs, 0⟩ :: gs) scope pos) 0 tgt iter ifs (inner D₀ env) it (.ref D₀) env)
    (X : Core c F A P st s ow m) (hok : compOk F.names st.vars scope.names = true) (hkind : scope.kind = .function) (hnd : (scope.names.map (·.1)).Nodup) (hs : ∀ x, foldedSetIterable iter F.env x = pure x)
    (h : It c F st tgt iter l fun xs st' => ∀ D₀ cl C, CpT c (Fc F scope cl C) D₀ tgt ifs (inner D₀ (Fc F scope cl C).env) (fun ds st2 => Post (.list ds) { st' with tb := st2.tb }) xs [] { vars := compV F.names st.vars scope.names, tb := st'.tb })
    (k : ∀ D₀ C ds n s', Left c F l A st ow s D₀ C ds n s' → Post (.list ds) { st with tb := n } → compPost (model c.prog c.w) F.A E use Q (.ref D₀) C (.ok .next) s') :
    wpAny (model c.prog c.w) F.A (comprehension (.ListComp elt (⟨tgt, iter, ifs, 0⟩ :: gs) scope pos) scope F.env pos' (newList []) false (eval iter F.env) use) Q E s := by
  have hcellx : ∀ x, (x, NameKind.free) ∈ scope.names → ∃ a, F.env.cells.lookup x = some a := by
    intro x hx
    obtain ⟨h1, d, h2⟩ := compOk_of hok hx
    obtain ⟨i, kk, hn, hv⟩ := look_idx h2
    obtain ⟨y, k', v, hn', hh, hi⟩ := X.var i d hv
    rw [hn] at hn'; cases hn'
    have hl := lookup_of_idx X.wf.nodup hn
    rcases hh with ⟨rfl, _⟩ | ⟨_, cl, hc, _⟩
    · rw [hl] at h1; simp at h1
    · exact ⟨cl, hc⟩
  refine wpAny_comprehension_free (g := ⟨tgt, iter, ifs, 0⟩) rfl hs (closureFor_eq hcellx) hkind (fun x hx hl => ?_) (wpAny_mono (h A P ow m s (fun it s₂ => wpAny (model c.prog c.w) F.A (newList []) (fun acc s₃ =>
      wpAny (model c.prog c.w) F.A (newFunctionEnv scope F.env.globals (clos F.env.cells scope.names []) [] F.env.qual none .none (some F.env)) (fun cenv s₄ =>
        codeAny (model c.prog c.w) F.A (.compStart (.ListComp elt (⟨tgt, iter, ifs, 0⟩ :: gs) scope pos) 0 it acc { cenv with scope := relabel scope F.env }) (compPost (model c.prog c.w) F.A E use Q acc cenv.locals) s₄) E s₃) E s₂) E X ?_) (fun _ _ h1 => h1) fun _ _ e => e)
  · obtain ⟨i, hi⟩ := List.getElem?_of_mem hx
    obtain ⟨y, kk⟩ := x
    exact hl ▸ lookup_of_idx hnd hi
  intro xs n I fp wr Sn src s2 p X2 e2 W hSn hsrc hwr hfp
  generalize hcl : clos F.env.cells scope.names [] = cl
  refine wpAny_newObj_type ?_ (by show ([] : List Value).toArray.size ≤ sizeLine; rw [sizeLine_eq]; simp)
  refine wpAny_newCompEnv ?_
  dsimp only
  generalize hH : s2.heap.push { cls := .type "list", dict := none, data := .seq ([] : List Value).toArray } = H2
  have hD2 : s2.heap.get? s2.heap.objs.size = none := none_at (Nat.le_refl _)
  have sz : H2.objs.size = s2.heap.objs.size + 1 := by rw [← hH, Heap.size_push]
  generalize hC : H2.objs.size = C at sz
  generalize hD : s2.heap.objs.size = D₀ at hD2 sz
  have kH : ∀ a o, s2.heap.get? a = some o → H2.get? a = some o := fun a o e => hH ▸ Heap.get?_push_of_some _ e
  have kC : ∀ a o, H2.get? a = some o → (pushCells (H2.push { cls := .type "dict", data := .dict #[] }) scope.names).get? a = some o := fun a o e => pushCells_keeps _ _ a o (Heap.get?_push_of_some _ e)
  have hns0 := (Heap.Ns.new H2 (.type "dict")).keeps (pushCells_keeps scope.names _)
  rw [hC] at hns0
  have ok := cellsFrom_ok scope.names (H2.push { cls := .type "dict", data := .dict #[] }) (C + 1) [] ⟨fun _ _ hm => (nomatch hm), List.Pairwise.nil⟩ (by rw [Heap.size_push, hC]; exact Nat.le_refl _)
  rw [Heap.size_push, hC] at ok
  generalize hH4 : pushCells (H2.push { cls := .type "dict", data := .dict #[] }) scope.names = H4 at kC hns0 ok
  have eD : H4.get? D₀ = some { cls := .type "list", dict := none, data := .seq ([] : List Value).toArray } := kC _ _ (by rw [← hH, ← hD]; exact Heap.get?_push_size _ rfl)
  have k24 : ∀ a o, s2.heap.get? a = some o → H4.get? a = some o := fun a o e => kC a o (kH a o e)
  have nD : s2.heap.get? D₀ = none := hD2
  have nC : s2.heap.get? C = none := by rw [sz, ← hD]; exact none_at (Nat.le_succ _)
  have nown : ∀ x a, (x, a) ∈ cellsFrom (C + 1) scope.names [] → s2.heap.get? a = none ∧ C < a := fun x a hx => by
    have := (ok.empty x a hx).2
    exact ⟨none_at (by lia), this⟩
  have DC : D₀ ≠ C := by lia
  have toS : ∀ {a}, s2.heap.get? a = none → s.heap.get? a = none := fun {a} hn => none_before (fun o e => by
    by_cases q : a = c.dk
    · subst q; exact X2.dkex
    · exact ⟨o, e2 a o e q⟩) hn
  have toH0 : ∀ {a}, s2.heap.get? a = none → c.H0.get? a = none := fun hn => none_before (fun o e => ⟨o, X2.mid.base _ o e⟩) hn
  have ndk : ∀ {a}, s2.heap.get? a = none → a ≠ c.dk := fun hn q => by obtain ⟨o, e⟩ := X2.dkex; rw [← q, hn] at e; cases e
  have hrel := relabel_eq (F := F) X.wf scope
  have hMmC : ∀ a, MmC (Fc F scope cl C) a → s2.heap.get? a = none ∧ C ≤ a := by
    rintro a (q | ⟨x, q⟩)
    · exact q ▸ ⟨nC, Nat.le_refl _⟩
    · exact ⟨(nown x a q).1, Nat.le_of_lt (nown x a q).2⟩
  let A1 : Addr → Prop := fun a => Av F l A st ow a ∨ a = D₀
  let P1 : Addr → Prop := fun a => ((∃ o, s.heap.get? a = some o) ∧ a ≠ c.dk) ∨ a = D₀
  have hclcell : ∀ x a, (x, a) ∈ cl → F.env.cells.lookup x = some a ∧ (x, NameKind.free) ∈ scope.names := fun x a hx => by
    rw [← hcl] at hx
    exact (clos_mem hx).elim (fun q => nomatch q) id
  have hlook : ∀ x a, F.env.cells.lookup x = some a → (x, NameKind.free) ∈ scope.names → (cellsFrom (C + 1) scope.names cl).lookup x = some a := by
    intro x a hx hf
    rw [cellsFrom_app]
    refine lookup_uniq (List.mem_append.mpr (.inr (by rw [← hcl]; exact clos_has hx (.inr hf)))) fun b hb => ?_
    rcases List.mem_append.mp hb with hb | hb
    · have h1 := cellsFrom_mem hb
      obtain ⟨i, hi⟩ := List.getElem?_of_mem h1
      obtain ⟨j, hj⟩ := List.getElem?_of_mem hf
      have := (lookup_of_idx hnd hi).symm.trans (lookup_of_idx hnd hj)
      cases this
    · have := (hclcell x b hb).1
      rw [hx] at this; cases this; rfl
  have hownlook : ∀ x a, (x, a) ∈ cellsFrom (C + 1) scope.names [] → (cellsFrom (C + 1) scope.names cl).lookup x = some a := by
    intro x a hx
    rw [cellsFrom_app]
    refine lookup_uniq (List.mem_append.mpr (.inl hx)) fun b hb => ?_
    rcases List.mem_append.mp hb with hb | hb
    · exact cellsFrom_nodup hnd hb hx
    · have h1 := cellsFrom_mem hx
      obtain ⟨i, hi⟩ := List.getElem?_of_mem h1
      obtain ⟨j, hj⟩ := List.getElem?_of_mem (hclcell x b hb).2
      have := (lookup_of_idx hnd hi).symm.trans (lookup_of_idx hnd hj)
      cases this
  have hcells4 : ∀ x a, (cellsFrom (C + 1) scope.names cl).lookup x = some a → ((∃ y, (y, a) ∈ cellsFrom (C + 1) scope.names []) ∨ ∃ y, F.env.cells.lookup y = some a) := by
    intro x a hx
    have := PySem.mem_of_lookup hx
    rw [cellsFrom_app] at this
    exact (List.mem_append.mp this).elim (fun q => .inl ⟨x, q⟩) fun q => .inr ⟨x, (hclcell x a q).1⟩
  have hF : ({ scope := relabel scope F.env, locals := C, globals := F.env.globals, cells := cellsFrom (C + 1) scope.names cl, qual := F.env.qual, func := none, code := F.env.code, frame := F.env.frame, builtins := F.env.builtins } : Env) = (Fc F scope cl C).env := by rw [hrel]
  rw [hF]
  have Xc : Core c (Fc F scope cl C) (Aw A1 wr) P1 { vars := compV F.names st.vars scope.names, tb := n } { s2 with heap := H4 } 0 (fun _ => none) := by
    have hM0 : ∀ a, Mm (Fc F scope cl C) { vars := compV F.names st.vars scope.names, tb := n } 0 a ↔ MmC (Fc F scope cl C) a := fun a => Mm_none rfl a
    refine ⟨⟨hkind, rfl, X.wf.glob, X.wf.bui, X.wf.room, by show ((relN F.names scope.names).map (·.1)).Nodup; rw [relN_fst]; exact hnd, toH0 nC, ndk nC, fun x a hx => ⟨toH0 (nown x a hx).1, Nat.ne_of_gt (nown x a hx).2, ndk (nown x a hx).1⟩, hownlook, fun x y a h1 h2 => name_of_addr ok.apart h1 h2⟩,
      ⟨fun a o e => k24 a o (X2.mid.base a o e), by rw [X2.mid.glob], X2.mid.deck.keep k24⟩, hns0, fun x a hx => ?_, .inl (.inl (.inl X.Adk)), ?_, ?_, ?_, ?_, ?_, ?_, fun i d hi => nomatch hi⟩
    · rcases hcells4 x a hx with ⟨y, q⟩ | ⟨y, q⟩
      · exact ⟨_, (ok.empty y a q).1⟩
      · obtain ⟨v, o, e, e'⟩ := X2.cells y a q
        exact ⟨v, o, k24 a o e, e'⟩
    · rintro ((q | q) | q)
      · exact X.Avdc _ q
      · obtain ⟨o, e⟩ := X2.dcex; rw [q, nD] at e; cases e
      · obtain ⟨o, e⟩ := X.dcex; rw [hwr _ q] at e; cases e
    · rintro (q | q)
      · exact q.2 rfl
      · exact ndk nD q.symm
    · rintro a ((q | q) | q)
      · have : ∃ o, s.heap.get? a = some o := q.elim (X.Alt a) fun q => X.Mex q.2
        obtain ⟨o, e⟩ := this
        by_cases z : a = c.dk
        · subst z; obtain ⟨o, e⟩ := X2.dkex; exact ⟨o, k24 _ _ e⟩
        · exact ⟨o, k24 _ _ (e2 a o e z)⟩
      · exact ⟨_, q ▸ eD⟩
      · obtain ⟨o, e⟩ := W.ex 0 _ hSn a q; exact ⟨o, k24 _ _ e⟩
    · rintro a (⟨⟨o, e⟩, z⟩ | q)
      · exact ⟨o, k24 _ _ (e2 a o e z)⟩
      · exact ⟨_, q ▸ eD⟩
    · intro a hp hm
      obtain ⟨hm, hc⟩ := hMmC a ((hM0 a).mp hm)
      rcases hp with ⟨⟨o, e⟩, z⟩ | q
      · rw [e2 a o e z] at hm; cases hm
      · have q' : a = D₀ := q
        have hc' : C ≤ a := hc
        rw [q', sz] at hc'; exact Nat.not_succ_le_self _ hc'
    · intro i d hi
      have hi' : ∃ y kd, scope.names[i]? = some (y, kd) ∧ (if kd == .free then look F.names st.vars y else Option.none) = some d := by
        have : (compV F.names st.vars scope.names)[i]? = some (some d) := hi
        unfold compV at this
        rw [List.getElem?_map] at this
        obtain ⟨⟨y, kd⟩, e1, e2⟩ := Option.map_eq_some_iff.mp this
        exact ⟨y, kd, e1, e2⟩
      obtain ⟨y, kd, hy, hd⟩ := hi'
      by_cases hfree : kd = .free
      · subst hfree
        rw [if_pos (by rfl)] at hd
        obtain ⟨j, kk, hn, hv⟩ := look_idx hd
        obtain ⟨y', k', v, hn', hh, iv⟩ := X2.var j d hv
        rw [hn] at hn'; cases hn'
        have hmem := List.mem_of_getElem? hy
        obtain ⟨hkc, _⟩ := compOk_of hok hmem
        have hlk := lookup_of_idx X.wf.nodup hn
        rcases hh with ⟨rfl, _⟩ | ⟨hkk, a, ha, ⟨o, he, hov⟩, hr⟩
        · rw [hlk] at hkc; simp at hkc
        · refine ⟨y, (if F.names.lookup y == some .cell then .cell else .free), v, ?_, .inr ⟨?_, a, hlook y a ha hmem, ⟨o, k24 _ _ he, hov⟩, .inr ⟨fun q => ?_, fun q => ?_⟩⟩, iv.ext fun b o e nn => ⟨k24 b o e, ?_⟩⟩
          · show (relN F.names scope.names)[i]? = _
            unfold relN
            rw [List.getElem?_map, hy]
            have ff : (NameKind.free == NameKind.free) = true := by rfl
            cases z : F.names.lookup y == some .cell
            · simp only [Option.map_some, z, Bool.and_false, Bool.false_eq_true, if_false]
            · simp only [Option.map_some, z, ff, Bool.and_self, if_true]
          · split
            · exact .inl rfl
            · exact .inr rfl
          · have := hMmC a ((hM0 a).mp q); rw [this.1] at he; cases he
          · subst q
            obtain ⟨_, _, _, _, _, ⟨o2, h3, _, n4, h4⟩, _⟩ := X2.mid.deck
            rw [h3] at he; cases he; rw [h4] at hov; cases hov
          · rintro (((q | q) | q) | q)
            · rcases q with q | q
              · exact nn (.inl (.inl q))
              · exact nn (.inr q.2)
            · rw [q, nD] at e; cases e
            · exact nn (.inl (.inr q))
            · have := hMmC b ((hM0 b).mp q); rw [this.1] at e; cases e
      · have z : (kd == NameKind.free) = false := by simpa using hfree
        rw [z] at hd; cases hd
  have hA1 : A1 D₀ := .inr rfl
  have hP1 : P1 D₀ := .inr rfl
  have hloop : codeAny (model c.prog c.w) F.A (.compLoop (.ListComp elt (⟨tgt, iter, ifs, 0⟩ :: gs) scope pos) 0 (.ref I) (.ref D₀) (Fc F scope cl C).env) (compPost (model c.prog c.w) F.A E use Q (.ref D₀) C) { s2 with heap := H4 } := by
    refine comp_loop (F := Fc F scope cl C) (A := A1) (P := P1) (ws := []) (acc := []) (hturn _ _ _) W Xc rfl (W.frame _ _ _ hSn fun b _ o e => k24 b o e) (W.smono _ _ _ _ hsrc fun a o e nn => ⟨k24 a o e, ?_⟩) hA1 hP1 (toH0 nD) ⟨_, eD⟩ .nil (.inl (.inl X.Adk)) (fun b hb => ?_) (fun b hb => ?_) (fun x a hx hb => ?_)
      (p D₀ cl C) (fun acc' st' m' s' ws' hN ho' Z hpl' hall' kp => ?_)
    · rintro (((q | q) | q) | q)
      · rcases q with q | q
        · exact nn (.inl (.inl q))
        · exact nn (.inr q)
      · rw [q, nD] at e; cases e
      · exact nn (.inl (.inr q))
      · have := hMmC a q; rw [this.1] at e; cases e
    · have hn := hwr b hb
      obtain ⟨o, e⟩ := W.ex 0 _ hSn b hb
      refine ⟨fun q => ?_, fun q => ?_, fun q => ?_, none_before (fun o e => ⟨o, X.mid.base b o e⟩) hn, ?_, ?_⟩
      · rw [(hMmC b q).1] at e; cases e
      · obtain ⟨o, e⟩ := X.dkex; rw [← q, hn] at e; cases e
      · rw [q, nD] at e; cases e
      · rintro (q | q)
        · have : ∃ o, s.heap.get? b = some o := q.elim (X.Alt b) fun q => X.Mex q.2
          obtain ⟨o, e⟩ := this; rw [hn] at e; cases e
        · rw [q, nD] at e; cases e
      · rintro (⟨⟨o, e⟩, z⟩ | q)
        · rw [hn] at e; cases e
        · rw [q, nD] at e; cases e
    · refine (hfp b hb).imp id fun ⟨⟨o, e⟩, q⟩ => ⟨⟨o, k24 _ _ e⟩, fun z => ?_, fun z => q (.inl (z ▸ X.Adk)), fun z => ?_⟩
      · rw [(hMmC b z).1] at e; cases e
      · rw [z, nD] at e; cases e
    · rcases hcells4 x a hx with ⟨y, q⟩ | ⟨y, q⟩
      · obtain ⟨o, e⟩ := W.ex 0 _ hSn a hb; rw [(nown y a q).1] at e; cases e
      · obtain ⟨v, o, e, e'⟩ := X.cells y a q
        rw [hwr a hb] at e; cases e
    · refine k D₀ C acc' st'.tb s' ⟨toS nD, toS nC, DC, ⟨m', Z.ns⟩, ⟨ws', hpl', hall'.mono fun a q => ?_⟩, ?_, Z.mid⟩ hN
      · rcases q with q | q | q
        · exact .inl (.inl q)
        · exact .inl (.inr q)
        · exact .inr (.inl q)
      · intro a o e z
        exact kp a o (.inl ⟨⟨o, e⟩, z⟩) (fun q => by rw [q, toS nD] at e; cases e) (k24 a o (e2 a o e z))
  refine codeAny_compStart_any (g := ⟨tgt, iter, ifs, 0⟩) rfl rfl hloop (W.self 0 _ _ _ ?_ hloop)
  exact W.frame _ _ _ hSn fun b _ o e => k24 b o e
end
end Mine

set_option maxRecDepth 100000
namespace Mine
open PySem PySem.W PyProof.Rows PySem.Calls

section
variable {c : Cx} {F : Fm} {l : Bool} {A P : Addr → Prop} {st : St} {s : Shared} {ow : Addr} {m : Str → Option Value} {Post : D → St → Prop} {N : St → Prop} {T : D → Nat → Prop}

theorem Left.done {D₀ C : Addr} {ds : List D} {n : Nat} {s' : Shared} (L : Left c F l A st ow s D₀ C ds n s') (X : Core c F A P st s ow m) {h' : Heap} (hs : Heap.SameBut C s'.heap h') :
    Core c F A P { st with tb := n } { s' with heap := h' } ow m ∧ Is c (Av F l A st ow) h' (.ref D₀) (.list ds) ∧ Ext1 c s.heap h' := by
  have ex : Ext1 c s.heap h' := fun a o e nn => hs.extBut a o (fun q => by rw [q, L.Cn] at e; cases e) (L.ext a o e nn)
  have cd : C ≠ c.dk := fun q => by obtain ⟨o, e⟩ := X.dkex; rw [← q, L.Cn] at e; cases e
  have cdc : C ≠ c.dc := fun q => by obtain ⟨o, e⟩ := X.dcex; rw [← q, L.Cn] at e; cases e
  have hd : DeckAt c n h' := by
    obtain ⟨t, tk, vs, h0, h1, ⟨o, hh, hr⟩, ⟨o2, ho2, hr2⟩, hi, hn⟩ := L.mid.deck
    exact ⟨t, tk, vs, h0, h1, ⟨o, hs.extBut _ _ (Ne.symm cd) hh, hr⟩, ⟨o2, hs.extBut _ _ (Ne.symm cdc) ho2, hr2⟩, hi, hn⟩
  have es : ({ s' with heap := h' } : Shared) = { s with heap := h', toks := s'.toks } := by rw [L.mid.glob, X.mid.glob]
  obtain ⟨ws, ⟨nn, hpl⟩, hall⟩ := L.pl
  refine ⟨es ▸ X.step (tk := s'.toks) ex hd, .list ⟨_, hs.extBut _ _ L.ne hpl, rfl, _, rfl⟩ ?_ ?_, ex⟩
  · intro q
    have : ∃ o, s.heap.get? D₀ = some o := q.elim (X.Alt _) fun q => X.Mex q.2
    obtain ⟨o, e⟩ := this; rw [L.Dn] at e; cases e
  · exact hall.ext fun a o e q => ⟨hs.extBut a o (fun z => q (.inr (.inr z))) e, fun z => q (.inl z)⟩

theorem Ev.comp_ {elt tgt iter : Expr} {ifs : List Expr} {gs : List Comprehension} {scope : Scope} {pos : Pos} {inner : Addr → Env → Sem Unit}
    (hturn : ∀ (env : Env) (it : Value) (D₀ : Addr), compTurn (.ListComp elt (⟨tgt, iter, ifs, 0⟩ :: gs) scope pos) 0 it (.ref D₀) env = turnForm (.ListComp elt (⟨tgt, iter, ifs, 0⟩ :: gs) scope pos) 0 tgt iter ifs (inner D₀ env) it (.ref D₀) env)
    (hok : compOk F.names st.vars scope.names = true) (hkind : scope.kind = .function) (hnd : (scope.names.map (·.1)).Nodup) (hs : ∀ x, foldedSetIterable iter F.env x = pure x)
    (h : It c F st tgt iter l fun xs st' => ∀ D₀ cl C, CpT c (Fc F scope cl C) D₀ tgt ifs (inner D₀ (Fc F scope cl C).env) (fun ds st2 => Post (.list ds) { st' with tb := st2.tb }) xs [] { vars := compV F.names st.vars scope.names, tb := st'.tb }) :
    Ev c F l st (.ListComp elt (⟨tgt, iter, ifs, 0⟩ :: gs) scope pos) Post := by
  intro A P ow m s Q E X k
  rw [eval_ListComp]
  refine comp_walk (use := Option.none) hturn X hok hkind hnd hs h fun D₀ C ds n s' L p => ?_
  obtain ⟨m', hm⟩ := L.ns
  refine ⟨m', hm, fun h' hs' => ?_⟩
  obtain ⟨h1, h2, h3⟩ := L.done X hs'
  exact k _ _ n _ p h1 h2 h3

theorem turn2 {elt tgt iter t2 i2 : Expr} {ifs f2 : List Expr} {scope : Scope} {pos : Pos} (env : Env) (it : Value) (D₀ : Addr) :
    compTurn (.ListComp elt [⟨tgt, iter, ifs, 0⟩, ⟨t2, i2, f2, 0⟩] scope pos) 0 it (.ref D₀) env = turnForm (.ListComp elt [⟨tgt, iter, ifs, 0⟩, ⟨t2, i2, f2, 0⟩] scope pos) 0 tgt iter ifs (Mine.gen2 (.ListComp elt [⟨tgt, iter, ifs, 0⟩, ⟨t2, i2, f2, 0⟩] scope pos) D₀ i2 env) it (.ref D₀) env := by
  unfold compTurn turnForm Mine.gen2
  refine bind_congr fun _ => bind_congr fun r => ?_
  cases r with
  | none => rfl
  | some v =>
    refine bind_congr fun _ => bind_congr fun _ => bind_congr fun ok => ?_
    cases ok with
    | false => rfl
    | true =>
      simp only [bind_assoc]
      rfl
theorem Ev.comp1 {elt tgt iter : Expr} {ifs : List Expr} {scope : Scope} {pos : Pos}
    (hok : compOk F.names st.vars scope.names = true)
    (h : It c F st tgt iter l fun xs st' => ∀ D₀ cl C, CpT c (Fc F scope cl C) D₀ tgt ifs (Mine.emit D₀ elt (Fc F scope cl C).env) (fun ds st2 => Post (.list ds) { st' with tb := st2.tb }) xs [] { vars := compV F.names st.vars scope.names, tb := st'.tb })
    (hkind : scope.kind = .function := by rfl) (hnd : (scope.names.map (·.1)).Nodup := by decide) (hs : ∀ x, foldedSetIterable iter F.env x = pure x := by intro _; rfl) :
    Ev c F l st (.ListComp elt [⟨tgt, iter, ifs, 0⟩] scope pos) Post :=
  Ev.comp_ (inner := fun D env => Mine.emit D elt env) (fun _ _ _ => by rfl) hok hkind hnd hs h
theorem Ev.comp2 {elt tgt iter t2 i2 : Expr} {ifs f2 : List Expr} {scope : Scope} {pos : Pos}
    (hok : compOk F.names st.vars scope.names = true)
    (h : It c F st tgt iter l fun xs st' => ∀ D₀ cl C, CpT c (Fc F scope cl C) D₀ tgt ifs (Mine.gen2 (.ListComp elt [⟨tgt, iter, ifs, 0⟩, ⟨t2, i2, f2, 0⟩] scope pos) D₀ i2 (Fc F scope cl C).env) (fun ds st2 => Post (.list ds) { st' with tb := st2.tb }) xs [] { vars := compV F.names st.vars scope.names, tb := st'.tb })
    (hkind : scope.kind = .function := by rfl) (hnd : (scope.names.map (·.1)).Nodup := by decide) (hs : ∀ x, foldedSetIterable iter F.env x = pure x := by intro _; rfl) :
    Ev c F l st (.ListComp elt [⟨tgt, iter, ifs, 0⟩, ⟨t2, i2, f2, 0⟩] scope pos) Post :=
  Ev.comp_ (inner := fun D env => Mine.gen2 (.ListComp elt [⟨tgt, iter, ifs, 0⟩, ⟨t2, i2, f2, 0⟩] scope pos) D i2 env) (fun _ _ _ => turn2 _ _ _) hok hkind hnd hs h

/-- x = [..] -/
theorem Ex1.comp1 {x : Str} {px spos : Pos} {elt tgt iter : Expr} {ifs : List Expr} {scope : Scope} {pos : Pos} {i : Nat} {k : NameKind} (hsl : slotOf F.names x = some (i, k)) (hcs : canStore F x k = true) (ho : (ownAt st == some i) = false)
    (hok : compOk F.names st.vars scope.names = true)
    (h : It c F st tgt iter true fun xs st' => ∀ D₀ cl C, CpT c (Fc F scope cl C) D₀ tgt ifs (Mine.emit D₀ elt (Fc F scope cl C).env) (fun ds st2 => N ({ st' with tb := st2.tb }.setv i (.list ds))) xs [] { vars := compV F.names st.vars scope.names, tb := st'.tb })
    (hsw : swapsWith (.ListComp elt [⟨tgt, iter, ifs, 0⟩] scope pos) (some (.Name x px)) spos.line F.env = pure true := by rfl)
    (hkind : scope.kind = .function := by rfl) (hnd : (scope.names.map (·.1)).Nodup := by decide) (hs : ∀ x, foldedSetIterable iter F.env x = pure x := by intro _; rfl) :
    Ex1 c F st (.Assign [.Name x px] (.ListComp elt [⟨tgt, iter, ifs, 0⟩] scope pos) spos) N T := by
  intro A P ow m s Q E X kN kR
  show wpAny _ _ (exec _ _) _ _ _
  rw [exec_Assign_Name_used _ _ _ _ hsw]
  refine wpAny_bind (wpAny_standAt (wpAny_bind ?_))
  show wpAny _ F.A (do let _ ← comprehension (.ListComp elt [⟨tgt, iter, ifs, 0⟩] scope pos) scope F.env _ (newList []) false (eval iter F.env) (some (PySem.assign (Expr.Name x px) F.env))) _ _ s
  refine wpAny_bind (wpAny_mono (comp_walk (l := true) (use := some (PySem.assign (Expr.Name x px) F.env)) (inner := fun D env => Mine.emit D elt env) (Q := fun _ s' => Q .next s') (Post := fun d st' => ∃ ds, d = .list ds ∧ N (st'.setv i d)) (fun _ _ _ => by rfl) X hok hkind hnd hs ?_ fun D₀ C ds n s' L p => ?_) (fun _ s' hq => wpAny_pure (wpAny_pure hq)) fun _ _ e => e)
  · exact fun A P ow m s Q E X k => h A P ow m s Q E X fun xs n I fp wr Sn src s' p => k xs n I fp wr Sn src s' fun D₀ cl C => by
      have := p D₀ cl C
      simpa only [D.list.injEq, exists_eq_left'] using this
  · obtain ⟨_, _, p⟩ := p
    obtain ⟨mC, hmC⟩ := L.ns
    obtain ⟨ws, ⟨nn, hpl⟩, hall⟩ := L.pl
    have oldC : ∀ {a}, (∃ o, s.heap.get? a = some o) → a ≠ C := fun ⟨o, e⟩ q => by rw [q, L.Cn] at e; cases e
    have XC := X.moreStep (B := fun a => a = C) (R := fun a => a = C) (tk := s'.toks) L.ext L.mid.deck (fun a q => by subst q; exact ⟨L.Cn, by obtain ⟨o, _, _, e, _⟩ := hmC; exact ⟨o, e⟩⟩)
      (fun a q => by subst q; exact ⟨fun z => oldC (X.Mex z) rfl, fun z => oldC X.dkex z.symm, by obtain ⟨o, _, _, e, _⟩ := hmC; exact ⟨o, e⟩⟩)
    have es : s' = { s with heap := s'.heap, toks := s'.toks } := by rw [L.mid.glob, X.mid.glob]
    rw [← es] at XC
    have hDN : ¬ ((A D₀ ∨ D₀ = C) ∨ Mm F { st with tb := n } ow D₀) := by
      rintro ((q | q) | q)
      · obtain ⟨o, e⟩ := X.Alt _ q; rw [L.Dn] at e; cases e
      · exact L.ne q
      · obtain ⟨o, e⟩ := X.Mex (st := st) q; rw [L.Dn] at e; cases e
    refine wpAny_assign_Name (store_dat XC (slotOf_get hsl) hcs ho (d := .list ds) (.list ⟨_, hpl, rfl, _, rfl⟩ hDN (hall.ext fun a o e q => ⟨e, fun z => q ?_⟩)) fun h' tk m' X2 step => ?_)
    · rcases z with (z | z) | z
      · exact .inl (.inl z)
      · exact .inr (.inr z)
      · exact .inl (.inr ⟨rfl, z⟩)
    · have hC' : h'.Ns C mC := by
        obtain ⟨o, es, ep, e, r⟩ := hmC
        exact ⟨o, es, ep, step C o e (fun q => oldC (X.Mex (.inl rfl)) q.symm) (fun y q => oldC (X.Mex (.inr (.inl ⟨y, q⟩))) rfl), r⟩
      refine ⟨mC, hC', fun h2 hs2 => ?_⟩
      have X3 := X2.skip (A₂ := A) (P₂ := P) (wr := [C]) (h' := h2) (tk := tk) (fun b hb => by simp at hb; exact .inr hb) (fun b hb => by simp at hb; exact .inr hb) (fun b hb => by simp at hb; subst hb; exact none_before (fun o e => ⟨o, X.mid.base b o e⟩) L.Cn)
        (fun b o hb e => hs2.extBut b o (by simpa using hb) e) (fun _ q => .inl q) (fun _ q => .inl q) X.Adk (fun b hb q => by
          simp at hb; subst hb
          exact absurd rfl (oldC (q.elim (X.Alt b) (X.Plt b)))) (fun y cl hy => by
          simp
          obtain ⟨v, o, e, _⟩ := X.cells y cl hy
          exact oldC ⟨o, e⟩)
      refine kN _ ow m' _ p X3 ?_
      refine ((keep_of_ext1 X L.ext).trans ?_).trans fun a o q e => hs2.extBut a o (oldC (X.Plt a q)) e
      exact fun a o q e => SlotStep.keep XC step a o (.inl q) e

theorem store_own2 {i : Nat} {x : Str} {k : NameKind} {d : D} {a : Addr} {Q : Unit → Shared → Prop} {E : Value → Shared → Prop} (X : Core c F (fun b => A b ∨ b = a) P st s ow m) (hn : F.names[i]? = some (x, k)) (hk : canStore F x k = true)
    (hA : ¬ A a) (hP : ¬ P a) (hL : a ≠ F.env.locals) (hO : ∀ x, (x, a) ∉ F.own) (hH : c.H0.get? a = none) (hdc : a ≠ c.dc) (hdk : a ≠ c.dk) (hAdk : A c.dk) (hcell : ∀ x cl, F.env.cells.lookup x = some cl → cl ≠ a)
    (hobj : OwnObj c (fun b => (A b ∨ b = a) ∨ Mm F { st with own := Option.none } ow b) s.heap a true d)
    (h : ∀ h' tk m', Core c F A P { st with vars := st.vars.set i Option.none, own := some (i, d), plain := true } { s with heap := h', toks := tk } a m' → SlotStep F s.heap h' → Q () { s with heap := h', toks := tk }) : wpAny (model c.prog c.w) F.A (storeName F.env x (.ref a)) Q E s := by
  have X1 := X.weak (vars := st.vars.set i Option.none) (own := Option.none) (fun j d hj => by
    rw [List.getElem?_set] at hj
    split at hj
    · split at hj <;> cases hj
    · exact hj) (.inr rfl)
  refine store_raw X1 hn (canStore_of hk) (fun d hj => ?_) (fun d hj => nomatch hj) fun h' tk m' X' hh step => ?_
  · simp only [List.getElem?_set_self'] at hj
    cases hq : st.vars[i]? with
    | none => rw [hq] at hj; simp at hj
    | some _ => rw [hq] at hj; simp at hj
  · have hobj' := hobj.step step hL hO fun b q => .inr (q.elim .inl fun q => .inr (.inl q))
    exact h _ _ m' (X'.toOwn (i := i) (d := d) (pl := true) (st := { st with vars := st.vars.set i Option.none }) hn hh hobj' hA hP hL hO hH hdc hdk hAdk hcell) step

/-- x = [..], to be changed -/
theorem Ex1.ownComp1 {x : Str} {px spos : Pos} {elt tgt iter : Expr} {ifs : List Expr} {scope : Scope} {pos : Pos} {i : Nat} {k : NameKind} (hsl : slotOf F.names x = some (i, k)) (hcs : canStore F x k = true)
    (hok : compOk F.names st.vars scope.names = true)
    (h : It c F st tgt iter true fun xs st' => ∀ D₀ cl C, CpT c (Fc F scope cl C) D₀ tgt ifs (Mine.emit D₀ elt (Fc F scope cl C).env) (fun ds st2 => N { vars := st.vars.set i Option.none, own := some (i, .list ds), tb := st2.tb, plain := true }) xs [] { vars := compV F.names st.vars scope.names, tb := st'.tb })
    (hsw : swapsWith (.ListComp elt [⟨tgt, iter, ifs, 0⟩] scope pos) (some (.Name x px)) spos.line F.env = pure true := by rfl)
    (hkind : scope.kind = .function := by rfl) (hnd : (scope.names.map (·.1)).Nodup := by decide) (hs : ∀ x, foldedSetIterable iter F.env x = pure x := by intro _; rfl) :
    Ex1 c F st (.Assign [.Name x px] (.ListComp elt [⟨tgt, iter, ifs, 0⟩] scope pos) spos) N T := by
  intro A P ow m s Q E X kN kR
  show wpAny _ _ (exec _ _) _ _ _
  rw [exec_Assign_Name_used _ _ _ _ hsw]
  refine wpAny_bind (wpAny_standAt (wpAny_bind ?_))
  show wpAny _ F.A (do let _ ← comprehension (.ListComp elt [⟨tgt, iter, ifs, 0⟩] scope pos) scope F.env _ (newList []) false (eval iter F.env) (some (PySem.assign (Expr.Name x px) F.env))) _ _ s
  refine wpAny_bind (wpAny_mono (comp_walk (l := true) (use := some (PySem.assign (Expr.Name x px) F.env)) (inner := fun D env => Mine.emit D elt env) (Q := fun _ s' => Q .next s') (Post := fun d st' => ∃ ds, d = .list ds ∧ N { vars := st.vars.set i Option.none, own := some (i, d), tb := st'.tb, plain := true }) (fun _ _ _ => by rfl) X hok hkind hnd hs ?_ fun D₀ C ds n s' L p => ?_) (fun _ s' hq => wpAny_pure (wpAny_pure hq)) fun _ _ e => e)
  · exact fun A P ow m s Q E X k => h A P ow m s Q E X fun xs n I fp wr Sn src s' p => k xs n I fp wr Sn src s' fun D₀ cl C => by
      have := p D₀ cl C
      simpa only [D.list.injEq, exists_eq_left'] using this
  · obtain ⟨_, _, p⟩ := p
    obtain ⟨mC, hmC⟩ := L.ns
    obtain ⟨ws, ⟨nn, hpl⟩, hall⟩ := L.pl
    have oldC : ∀ {a}, (∃ o, s.heap.get? a = some o) → a ≠ C := fun ⟨o, e⟩ q => by rw [q, L.Cn] at e; cases e
    have oldD : ∀ {a}, (∃ o, s.heap.get? a = some o) → D₀ ≠ a := fun ⟨o, e⟩ q => by rw [← q, L.Dn] at e; cases e
    have XC := X.moreStep (B := fun a => a = C ∨ a = D₀) (R := fun a => a = C) (tk := s'.toks) L.ext L.mid.deck (fun a q => by
        rcases q with q | q
        · subst q; exact ⟨L.Cn, by obtain ⟨o, _, _, e, _⟩ := hmC; exact ⟨o, e⟩⟩
        · subst q; exact ⟨L.Dn, _, hpl⟩)
      (fun a q => by subst q; exact ⟨fun z => oldC (X.Mex z) rfl, fun z => oldC X.dkex z.symm, by obtain ⟨o, _, _, e, _⟩ := hmC; exact ⟨o, e⟩⟩)
    have es : s' = { s with heap := s'.heap, toks := s'.toks } := by rw [L.mid.glob, X.mid.glob]
    rw [← es] at XC
    have XC := XC.less (A := fun a => (A a ∨ a = C) ∨ a = D₀) (P := fun a => P a ∨ a = C) (fun a q => q.elim (fun q => q.imp id .inl) fun q => .inr (.inr q)) (fun _ q => q) (.inl (.inl X.Adk))
    have hobj : OwnObj c (fun b => ((A b ∨ b = C) ∨ b = D₀) ∨ Mm F { st with tb := n, own := Option.none } ow b) s'.heap D₀ true (.list ds) := by
      refine .list ⟨_, hpl, rfl, _, rfl⟩ (fun _ => ⟨nn, hpl⟩) (hall.ext fun a o e q => ⟨e, fun z => q ?_⟩)
      rcases z with ((z | z) | z) | z
      · exact .inl (.inl z)
      · exact .inr (.inr z)
      · exact .inr (.inl z)
      · refine .inl (.inr ⟨rfl, ?_⟩)
        rcases z with z | z | ⟨z, _⟩
        · exact .inl z
        · exact .inr (.inl z)
        · cases z
    refine wpAny_assign_Name (store_own2 (A := fun a => A a ∨ a = C) (st := { st with tb := n }) XC (slotOf_get hsl) hcs (fun q => q.elim (fun q => oldD (X.Alt _ q) rfl) L.ne) (fun q => q.elim (fun q => oldD (X.Plt _ q) rfl) L.ne) (oldD (X.Mex (.inl rfl))) (fun y q => oldD (X.Mex (.inr (.inl ⟨y, q⟩))) rfl)
      (none_before (fun o e => ⟨o, X.mid.base _ o e⟩) L.Dn) (oldD X.dcex) (oldD X.dkex) (.inl X.Adk) (fun y cl hy => by
        obtain ⟨v, o, e, _⟩ := X.cells y cl hy
        exact (oldD ⟨o, e⟩).symm) hobj fun h' tk m' X2 step => ?_)
    have hC' : h'.Ns C mC := by
      obtain ⟨o, es, ep, e, r⟩ := hmC
      exact ⟨o, es, ep, step C o e (fun q => oldC (X.Mex (.inl rfl)) q.symm) (fun y q => oldC (X.Mex (.inr (.inl ⟨y, q⟩))) rfl), r⟩
    refine ⟨mC, hC', fun h2 hs2 => ?_⟩
    have X3 := X2.skip (A₂ := A) (P₂ := P) (wr := [C]) (h' := h2) (tk := tk) (fun b hb => by simp at hb; exact .inr hb) (fun b hb => by simp at hb; exact .inr hb) (fun b hb => by simp at hb; subst hb; exact none_before (fun o e => ⟨o, X.mid.base b o e⟩) L.Cn)
      (fun b o hb e => hs2.extBut b o (by simpa using hb) e) (fun _ q => .inl q) (fun _ q => .inl q) X.Adk (fun b hb q => by
        simp at hb; subst hb
        exact absurd rfl (oldC (q.elim (X.Alt b) (X.Plt b)))) (fun y cl hy => by
        simp
        obtain ⟨v, o, e, _⟩ := X.cells y cl hy
        exact oldC ⟨o, e⟩)
    refine kN _ D₀ m' _ p X3 ?_
    refine ((keep_of_ext1 X L.ext).trans ?_).trans fun a o q e => hs2.extBut a o (oldC (X.Plt a q)) e
    exact fun a o q e => SlotStep.keep XC step a o (.inl q) e

/-- an owned thing is a datum again -/
theorem Ex.disown {t : Sem Flow} {i : Nat} {d : D} (ho : st.own = some (i, d)) (hi : i < st.vars.length) (h : ExS c F { st with vars := st.vars.set i (some d), own := Option.none } t N T) : ExS c F st t N T := by
  intro A P ow m s Q E X kN kR
  have X1 := X.weak (vars := st.vars) (own := Option.none) (fun _ _ h => h) (.inr rfl)
  obtain ⟨⟨x, k, hn, hh⟩, hobj, hA, hL, hO, hH, hdc⟩ := X.ovar i d ho
  have hM : ∀ a, Mm F { st with own := Option.none } ow a → Mm F st ow a := by
    rintro a (q | q | ⟨q, _⟩)
    · exact .inl q
    · exact .inr (.inl q)
    · cases q
  have hh' : Holds c F { st with own := Option.none } ow s.heap m x k (.ref ow) := by
    rcases hh with hh | ⟨hkk, cl, a, b, hr⟩
    · exact .inl hh
    · exact .inr ⟨hkk, cl, a, b, hr.imp id fun q => ⟨fun z => q.1 (hM _ z), q.2⟩⟩
  have X2 := X1.addVar (d := d) hn hh' (hobj.is (fun a q => q.imp id (hM a)) fun q => by
    rcases q with q | q | ⟨y, q⟩ | ⟨q, _⟩
    · exact hA q
    · exact hL q
    · exact hO y q
    · cases q)
  exact h A P ow m s Q E X2 kN kR
end
end Mine

set_option maxRecDepth 100000
namespace Mine
open PySem PySem.W PyProof.Rows PySem.Calls

noncomputable def subV : List (Option D) → List (Option D) → Prop
  | [], _ => True
  | none :: xs, [] => subV xs []
  | none :: xs, _ :: ys => subV xs ys
  | some _ :: _, [] => False
  | some d :: xs, y :: ys => y = some d ∧ subV xs ys
theorem subV_of : ∀ {a b : List (Option D)}, subV a b → ∀ (i : Nat) (d : D), a[i]? = some (some d) → b[i]? = some (some d)
  | [], _, _, i, d, h => by simp at h
  | none :: xs, [], hs, 0, d, h => by simp at h
  | none :: xs, [], hs, i + 1, d, h => by
    have := subV_of (a := xs) (b := []) hs i d (by simpa using h)
    simp at this
  | none :: xs, y :: ys, hs, 0, d, h => by simp at h
  | none :: xs, y :: ys, hs, i + 1, d, h => by simpa using subV_of (a := xs) (b := ys) hs i d (by simpa using h)
  | some e :: xs, [], hs, _, _, _ => hs.elim
  | some e :: xs, y :: ys, hs, 0, d, h => by simp at h; subst h; simp [hs.1]
  | some e :: xs, y :: ys, hs, i + 1, d, h => by simpa using subV_of (a := xs) (b := ys) hs.2 i d (by simpa using h)
theorem subV_refl : ∀ (a : List (Option D)), subV a a
  | [] => trivial
  | none :: xs => subV_refl xs
  | some _ :: xs => ⟨rfl, subV_refl xs⟩

theorem Sub.mk' {v v' : List (Option D)} {o : Option (Nat × D)} {p : Bool} {n n' : Nat} (h : subV v v') (hn : n' ≤ n) : Sub { vars := v, own := o, plain := p, tb := n } { vars := v', own := o, plain := p, tb := n' } := ⟨subV_of h, rfl, rfl, hn⟩
theorem Sub.tbs {st : St} {n : Nat} (h : st.tb ≤ n) : Sub { st with tb := n } st := ⟨fun _ _ h => h, rfl, rfl, h⟩

section
variable {c : Cx} {F : Fm} {l : Bool} {st : St} {Post : D → St → Prop} {N : St → Prop} {T : D → Nat → Prop}

theorem ExS.sub {st0 : St} {t : Sem Flow} (h : ExS c F st0 t N T) (hs : Sub st0 st) : ExS c F st t N T := fun A P ow m s Q E X kN kR => h A P ow m s Q E (X.sub hs) kN kR
theorem ExA.sub {st0 : St} {tgt : Expr} {x : D} {body : List Stmt} (h : ExA c F st0 tgt x body N T) (hs : Sub st0 st) (ho : st.own = st0.own := by rfl) : ExA c F st tgt x body N T := fun A P ow m s v Q E X iv kN kR =>
  h A P ow m s v Q E (X.sub hs) (iv.mono fun a q => q.imp id fun q => by
    rcases q with q | q | q
    · exact .inl q
    · exact .inr (.inl q)
    · exact .inr (.inr ⟨by rw [ho]; exact q.1, q.2⟩)) kN kR
theorem ExA.mono {tgt : Expr} {x : D} {body : List Stmt} {N' : St → Prop} {T' : D → Nat → Prop} (h : ExA c F st tgt x body N T) (hN : ∀ st, N st → N' st) (hT : ∀ d n, T d n → T' d n) : ExA c F st tgt x body N' T' :=
  fun A P ow m s v Q E X iv kN kR => h A P ow m s v Q E X iv (fun st' ow' m' s' p => kN st' ow' m' s' (hN _ p)) fun v d n s' p => kR v d n s' (hT _ _ p)

/-- turns with an invariant -/
theorem Lp.inv {tgt : Expr} {body : List Stmt} {xs : List D} (I : Nat → St → Prop) (turn : ∀ (i : Nat) x, xs[i]? = some x → ∀ st, I i st → ExA c F st tgt x body (fun st' => ∃ st0, Sub st0 st' ∧ I (i + 1) st0) T) (h0 : I 0 st) (hend : ∀ st st', I xs.length st → Sub st st' → N st') : Lp c F tgt body N T xs st := by
  have main : ∀ (k : Nat) (i : Nat), i + k = xs.length → ∀ st st', I i st → Sub st st' → Lp c F tgt body N T (xs.drop i) st' := by
    intro k
    induction k with
    | zero =>
      intro i hi st st' h hs
      have e : xs.drop i = [] := List.drop_of_length_le (by lia)
      rw [e]
      exact hend st st' (by have : i = xs.length := by lia
                            rw [← this]; exact h) hs
    | succ k ih =>
      intro i hi st st' h hs
      have hlt : i < xs.length := by lia
      rw [List.drop_eq_getElem_cons hlt]
      refine ExA.sub (ExA.mono (turn i _ (List.getElem?_eq_getElem hlt) st h) (fun st2 ⟨st0, hs0, hI⟩ => ih (i + 1) (by lia) st0 st2 hI hs0) fun _ _ q => q) hs hs.own.symm
  have := main xs.length 0 (by lia) st st h0 (Sub.refl _)
  simpa using this

theorem TgA.mono {tgt : Expr} {x : D} {N' : St → Prop} (h : TgA c F st tgt x N) (hN : ∀ st, N st → N' st) : TgA c F st tgt x N' := fun A P m s v Q E X ho iv k => h A P m s v Q E X ho iv fun st' m' s' p => k st' m' s' (hN _ p)
theorem Tst.mono {t : Expr} {B B' : Bool → St → Prop} (h : Tst c F st t B) (hB : ∀ b st, B b st → B' b st) : Tst c F st t B' := fun A P ow m s Q E X k => h A P ow m s Q E X fun b n s' p => k b n s' (hB _ _ p)
theorem IfsT.mono {ifs : List Expr} {B B' : Bool → St → Prop} (h : IfsT c F st ifs B) (hB : ∀ b st, B b st → B' b st) : IfsT c F st ifs B' := by
  match ifs, h with
  | [], h => exact hB _ _ h
  | [t], h => exact Tst.mono h hB
theorem Cs.mono {D₀ : Addr} {acc : List D} {t : Sem Unit} {B B' : List D → St → Prop} (h : Cs c F D₀ acc st t B) (hB : ∀ b st, B b st → B' b st) : Cs c F D₀ acc st t B' := fun A P m s ws Q E X ho hA hP hl hpl hall k => h A P m s ws Q E X ho hA hP hl hpl hall fun acc' st' m' s' ws' p => k acc' st' m' s' ws' (hB _ _ p)
theorem Tr.mono {t : Sem Value} {Post' : D → St → Prop} (h : Tr c F l st t Post) (hP : ∀ d st, Post d st → Post' d st) : Tr c F l st t Post' := fun A P ow m s Q E X k => h A P ow m s Q E X fun v d n s' p => k v d n s' (hP _ _ p)

theorem CpT.inv {D₀ : Addr} {tgt : Expr} {ifs : List Expr} {inner : Sem Unit} {N : List D → St → Prop} {xs acc : List D} (I : Nat → List D → St → Prop)
    (turn : ∀ (i : Nat) x, xs[i]? = some x → ∀ acc st, I i acc st → TgA c F st tgt x fun st1 => IfsT c F st1 ifs fun b st2 => (b = true → Cs c F D₀ acc st2 inner fun acc' st3 => ∃ st0, Sub st0 st3 ∧ I (i + 1) acc' st0) ∧ (b = false → ∃ st0, Sub st0 st2 ∧ I (i + 1) acc st0))
    (h0 : I 0 acc st) (hend : ∀ acc st, I xs.length acc st → N acc st) : CpT c F D₀ tgt ifs inner N xs acc st := by
  have main : ∀ (k : Nat) (i : Nat), i + k = xs.length → ∀ acc st st', I i acc st → Sub st st' → CpT c F D₀ tgt ifs inner N (xs.drop i) acc st' := by
    intro k
    induction k with
    | zero =>
      intro i hi acc st st' h hs
      have e : xs.drop i = [] := List.drop_of_length_le (by lia)
      rw [e]
      exact ⟨st, hs, hend acc st (by have : i = xs.length := by lia
                                     rw [← this]; exact h)⟩
    | succ k ih =>
      intro i hi acc st st' h hs
      have hlt : i < xs.length := by lia
      rw [List.drop_eq_getElem_cons hlt]
      refine ⟨st, hs, TgA.mono (turn i _ (List.getElem?_eq_getElem hlt) acc st h) fun st1 h1 => IfsT.mono h1 fun b st2 h2 => ⟨fun e => Cs.mono (h2.1 e) fun acc' st3 ⟨st0, q, r⟩ => ih (i + 1) (by lia) acc' st0 st3 r q, fun e => ?_⟩⟩
      obtain ⟨st0, q, r⟩ := h2.2 e
      exact ih (i + 1) (by lia) acc st0 st2 r q
  have := main xs.length 0 (by lia) acc st st h0 (Sub.refl _)
  simpa using this

inductive Sel (R : D → D → Prop) (S : D → Prop) : List D → List D → Prop
  | nil : Sel R S [] []
  | take {x xs d ds} : R x d → Sel R S xs ds → Sel R S (x :: xs) (d :: ds)
  | skip {x xs ds} : S x → Sel R S xs ds → Sel R S (x :: xs) ds
theorem Sel.app {R : D → D → Prop} {S : D → Prop} {xs ys ds es : List D} (h : Sel R S xs ds) (h' : Sel R S ys es) : Sel R S (xs ++ ys) (ds ++ es) := by
  induction h with
  | nil => exact h'
  | take a _ ih => exact .take a ih
  | skip a _ ih => exact .skip a ih
theorem Sel.len {R : D → D → Prop} {S : D → Prop} {xs ds : List D} (h : Sel R S xs ds) : ds.length ≤ xs.length := by
  induction h with
  | nil => exact Nat.le_refl _
  | take a _ ih => simpa using ih
  | skip a _ ih => exact Nat.le_succ_of_le ih
theorem Sel.map {p : D → Bool} {f : D → D} {xs ds : List D} (h : Sel (fun x d => p x = true ∧ d = f x) (fun x => p x = false) xs ds) : ds = (xs.filter p).map f := by
  induction h with
  | nil => rfl
  | take a _ ih => simp [List.filter_cons, a.1, a.2, ih]
  | skip a _ ih => simp [List.filter_cons, a, ih]

theorem CpT.sel {D₀ : Addr} {tgt elt : Expr} {ifs : List Expr} {N : List D → St → Prop} {xs : List D} (R : D → D → Prop) (S : D → Prop) (b : Nat) (hsz : xs.length ≤ 1000)
    (turn : ∀ x ∈ xs, ∀ n, n + b ≤ st.tb + xs.length * b → TgA c F { st with tb := n } tgt x fun st1 => IfsT c F st1 ifs fun q st2 => (q = true → Ev c F true st2 elt fun d st3 => R x d ∧ Sub { st with tb := n + b } st3) ∧ (q = false → S x ∧ Sub { st with tb := n + b } st2))
    (h : ∀ ds, Sel R S xs ds → N ds { st with tb := st.tb + xs.length * b }) : CpT c F D₀ tgt ifs (Mine.emit D₀ elt F.env) N xs [] st := by
  refine CpT.inv (fun i acc st' => st' = { st with tb := st.tb + i * b } ∧ Sel R S (xs.take i) acc) (fun i x hx acc st' ⟨e, hsel⟩ => ?_) ⟨by simp, by simpa using Sel.nil⟩ (fun acc st' ⟨e, hsel⟩ => by
    subst e; exact h acc (by simpa using hsel))
  subst e
  have hlt := (List.getElem?_eq_some_iff.mp hx).1
  have hmem := List.mem_of_getElem? hx
  have e1 : st.tb + i * b + b = st.tb + (i + 1) * b := by rw [Nat.add_mul, Nat.one_mul, Nat.add_assoc]
  have hle : st.tb + i * b + b ≤ st.tb + xs.length * b := by
    rw [e1]; exact Nat.add_le_add_left (Nat.mul_le_mul_right b hlt) _
  have htk : xs.take (i + 1) = xs.take i ++ [x] := by rw [List.take_add_one, hx]; rfl
  have hl := hsel.len
  have hl2 : (xs.take i).length ≤ xs.length := by rw [List.length_take]; lia
  refine TgA.mono (turn x hmem _ hle) fun st1 h1 => IfsT.mono h1 fun q st2 h2 => ⟨fun e => ?_, fun e => ?_⟩
  · refine Cs.emit (by lia) (Tr.mono (h2.1 e) fun d st3 ⟨hr, hs⟩ => ⟨_, e1 ▸ hs, rfl, ?_⟩)
    rw [htk]; exact hsel.app (.take hr .nil)
  · obtain ⟨hs, hsub⟩ := h2.2 e
    refine ⟨_, e1 ▸ hsub, rfl, ?_⟩
    rw [htk]
    simpa using hsel.app (.skip hs .nil)

noncomputable def fnOk (ps : List Str) (names : List (Str × NameKind)) : Bool :=
  decide ps.Nodup && (ps.all fun x => names.lookup x == some .local || names.lookup x == some .cell) && decide (names.map (·.1)).Nodup && decide ((cellsFrom 0 names []).map (·.1)).Nodup && names.all fun p => p.2 != .free
theorem cellsFrom_has : ∀ {names : List (Str × NameKind)} {n : Nat} {x : Str}, (x, NameKind.cell) ∈ names → ∃ a, (x, a) ∈ cellsFrom n names []
  | (y, k) :: r, n, x, h => by
    unfold cellsFrom
    rcases List.mem_cons.mp h with e | h
    · cases e
      rw [if_pos (by rfl), cellsFrom_app]
      exact ⟨n, List.mem_append.mpr (.inr (.head _))⟩
    · split
      · rw [cellsFrom_app]
        obtain ⟨a, ha⟩ := cellsFrom_has (n := n + 1) h
        exact ⟨a, List.mem_append.mpr (.inl ha)⟩
      · exact cellsFrom_has h
theorem lookup_isSome {α : Type} : ∀ {l : List (Str × α)} {x : Str} {a : α}, (x, a) ∈ l → (l.lookup x).isSome = true
  | (y, b) :: r, x, a, h => by
    rw [List.lookup_cons]
    cases q : x == y with
    | true => rfl
    | false =>
      rcases List.mem_cons.mp h with e | h
      · cases e; simp at q
      · exact lookup_isSome h

theorem Fn.of {x : Str} {a : Addr} {params : Arguments} {body : List Stmt} {scope : Scope} {ps : List Str} {ds : List D} {k b : Nat} {T : D → Prop} (H : FnAt c x a params body scope)
    (hbind : ∀ pm code doc (vs : List Value), vs.length = ds.length → bindArgs (docDef x params body scope pm code doc) ⟨vs, []⟩ = pure (ps.zip vs)) (hok : fnOk ps scope.names = true)
    (h : ∀ pm code doc L B n, n + b ≤ maxT → Ex c (frm (docDef x params body scope pm code doc) a k L B) { vars := initV scope.names ps ds, tb := n } body (fun st => T .none ∧ st.tb ≤ n + b) (fun d n' => T d ∧ n' ≤ n + b))
    (hco : scope.isCoroutine = false := by rfl) (hgen : scope.isGenerator = false := by rfl) (hk : scope.kind = .function := by rfl) : Fn c a (k + 1) b ds T := by
  obtain ⟨o, pm, code, doc, ho, hd, hc⟩ := H.at_
  unfold fnOk at hok
  simp only [Bool.and_eq_true, decide_eq_true_eq] at hok
  obtain ⟨⟨⟨⟨h1, h2⟩, h3⟩, h4⟩, h5⟩ := hok
  refine Fn.fd ho hd hc rfl rfl rfl rfl (hbind pm code doc) h1 (fun y hy => ?_) h3 h4 (fun n y hy => ?_) (fun p hp => ?_) (h pm code doc) hco hgen hk
  · have := List.all_eq_true.mp h2 y hy
    exact (by simpa using this : List.lookup y scope.names = some NameKind.local ∨ List.lookup y scope.names = some NameKind.cell)
  · obtain ⟨a, ha⟩ := cellsFrom_has (n := n) (PySem.mem_of_lookup hy)
    exact lookup_isSome ha
  · have := List.all_eq_true.mp h5 p hp
    simpa using this
end

theorem len1 {vs : List Value} {n : Nat} (h : vs.length = n) (hn : n = 1) : ∃ a, vs = [a] := by
  subst hn; match vs, h with | [a], _ => exact ⟨a, rfl⟩
theorem len2 {vs : List Value} {n : Nat} (h : vs.length = n) (hn : n = 2) : ∃ a b, vs = [a, b] := by
  subst hn; match vs, h with | [a, b], _ => exact ⟨a, b, rfl⟩
theorem len3 {vs : List Value} {n : Nat} (h : vs.length = n) (hn : n = 3) : ∃ a b c, vs = [a, b, c] := by
  subst hn; match vs, h with | [a, b, c], _ => exact ⟨a, b, c, rfl⟩
theorem len4 {vs : List Value} {n : Nat} (h : vs.length = n) (hn : n = 4) : ∃ a b c d, vs = [a, b, c, d] := by
  subst hn; match vs, h with | [a, b, c, d], _ => exact ⟨a, b, c, d, rfl⟩
end Mine

set_option maxRecDepth 100000
namespace Mine
open PySem PySem.W PyProof.Rows PySem.Calls

noncomputable def nthS : List Stmt → Nat → Stmt
  | [], _ => .Pass ⟨0, 0, 0, 0⟩
  | s :: _, 0 => s
  | _ :: r, n + 1 => nthS r n
noncomputable def sBody : Stmt → List Stmt
  | .FunctionDef _ _ b .. => b
  | .ClassDef _ _ _ b .. => b
  | _ => []
noncomputable def sArgs : Stmt → Arguments
  | .FunctionDef _ a .. => a
  | _ => { posonlyargs := [], args := [], vararg := none, kwonlyargs := [], kw_defaults := [], kwarg := none, defaults := [] }
noncomputable def sScope : Stmt → Scope
  | .FunctionDef _ _ _ _ _ _ s .. => s
  | _ => { kind := .function, names := [], isGenerator := false, isCoroutine := false }
noncomputable def sPos : Stmt → Pos
  | .FunctionDef _ _ _ _ _ _ _ _ _ p => p
  | _ => ⟨0, 0, 0, 0⟩
noncomputable def fS (i : Nat) : Stmt := nthS PySem.Challenge.pw_on0356_01.main.body i
noncomputable def fB (i : Nat) : List Stmt := sBody (fS i)
noncomputable def fA (i : Nat) : Arguments := sArgs (fS i)
noncomputable def fC (i : Nat) : Scope := sScope (fS i)
noncomputable def fP (i : Nat) : Pos := sPos (fS i)

end Mine

set_option maxRecDepth 100000
namespace Mine
open PySem PySem.W PyProof.Rows PySem.Calls

section
variable {c : Cx} {F : Fm} {l l' : Bool} {st : St} {Post : D → St → Prop} {N : St → Prop} {T : D → Nat → Prop}

theorem Ev.len {e : Expr} {p pos : Pos} (hx : F.names.lookup (Str.ofString "len") = some .globalImplicit) (h : Ev c F false st e fun d st1 => ∃ ds, d = .list ds ∧ ds.length ≤ 1000000 ∧ Post (.int ds.length) st1)
    (he : starEach [e] F.env = [(false, eval e F.env)] := by rfl) : Ev c F l st (.Call (.Name (Str.ofString "len") p) [e] [] pos) Post :=
  Ev.callB (l' := false) hx (c.miss _ (by decide)) PySem.boot_len (by decide) (EvL.cons (Tr.mono h fun d st1 ⟨ds, e, hs, p⟩ => EvL.nil (by subst e; exact CallV.len hs p)) he) (by decide) he
theorem Ev.allB {e : Expr} {p pos : Pos} (hx : F.names.lookup (Str.ofString "all") = some .globalImplicit) (h : Ev c F false st e fun d st1 => ∃ bs : List Bool, d = .list (bs.map .bool) ∧ Post (.bool (bs.all id)) st1)
    (he : starEach [e] F.env = [(false, eval e F.env)] := by rfl) : Ev c F l st (.Call (.Name (Str.ofString "all") p) [e] [] pos) Post :=
  Ev.callB (l' := false) hx (c.miss _ (by decide)) PyProof.Rows.boot_all (by decide) (EvL.cons (Tr.mono h fun d st1 ⟨ds, e, p⟩ => EvL.nil (by subst e; exact CallV.all p)) he) (by decide) he
theorem Ev.minB {e : Expr} {p pos : Pos} (hx : F.names.lookup (Str.ofString "min") = some .globalImplicit) (h : Ev c F false st e fun d st1 => ∃ ns : List Int, d = .list (ns.map .int) ∧ ns ≠ [] ∧ ∀ M, M ∈ ns → (∀ a ∈ ns, M ≤ a) → Post (.int M) st1)
    (he : starEach [e] F.env = [(false, eval e F.env)] := by rfl) : Ev c F l st (.Call (.Name (Str.ofString "min") p) [e] [] pos) Post :=
  Ev.callB (l' := false) hx (c.miss _ (by decide)) PyProof.Rows.boot_min (by decide) (EvL.cons (Tr.mono h fun d st1 ⟨ds, e, hs, p⟩ => EvL.nil (by subst e; exact CallV.min hs p)) he) (by decide) he
theorem Ev.maxB {e : Expr} {p pos : Pos} (hx : F.names.lookup (Str.ofString "max") = some .globalImplicit) (h : Ev c F false st e fun d st1 => ∃ ns : List Int, d = .list (ns.map .int) ∧ ns ≠ [] ∧ ∀ M, M ∈ ns → (∀ a ∈ ns, a ≤ M) → Post (.int M) st1)
    (he : starEach [e] F.env = [(false, eval e F.env)] := by rfl) : Ev c F l st (.Call (.Name (Str.ofString "max") p) [e] [] pos) Post :=
  Ev.callB (l' := false) hx (c.miss _ (by decide)) PyProof.Rows.boot_max (by decide) (EvL.cons (Tr.mono h fun d st1 ⟨ds, e, hs, p⟩ => EvL.nil (by subst e; exact CallV.max hs p)) he) (by decide) he
theorem Ev.intB {e : Expr} {p pos : Pos} (hx : F.names.lookup (Str.ofString "int") = some .globalImplicit) (h : Ev c F false st e fun d st1 => ∃ b : Bool, d = .bool b ∧ Post (.int (if b then 1 else 0)) st1)
    (he : starEach [e] F.env = [(false, eval e F.env)] := by rfl) : Ev c F l st (.Call (.Name (Str.ofString "int") p) [e] [] pos) Post :=
  Ev.callT (l' := false) hx (c.miss _ (by decide)) PyProof.Rows.boot_int (by decide) (EvL.cons (Tr.mono h fun d st1 ⟨ds, e, p⟩ => EvL.nil (by subst e; exact CallV.intBool p)) he) (by decide) he
theorem Ev.listB {e : Expr} {p pos : Pos} (hx : F.names.lookup (Str.ofString "list") = some .globalImplicit) (h : Ev c F l st e fun d st1 => ∃ ds, d = .list ds ∧ ds.length ≤ 1000000 ∧ Post (.list ds) st1)
    (he : starEach [e] F.env = [(false, eval e F.env)] := by rfl) : Ev c F l st (.Call (.Name (Str.ofString "list") p) [e] [] pos) Post :=
  Ev.callT (l' := l) hx (c.miss _ (by decide)) PyProof.Rows.boot_list (by decide) (EvL.cons (Tr.mono h fun d st1 ⟨ds, e, hs, p⟩ => EvL.nil (by subst e; exact CallV.list hs p)) he) (by decide) he

noncomputable def CallOk (c : Cx) (F : Fm) (a : Addr) (st : St) (Post : D → St → Prop) (ds : List D) : Prop := ∃ k b T, Fn c a k b ds T ∧ k ≤ F.k ∧ st.tb + b ≤ maxT ∧ ∀ d, T d → Post d { st with tb := st.tb + b }
theorem Ev.call1 {x : Str} {a : Addr} {params : Arguments} {body : List Stmt} {scope : Scope} {e : Expr} {p pos : Pos} (hf : FnAt c x a params body scope) (hx : F.names.lookup x = some .globalImplicit)
    (h : Ev c F l st e fun d st1 => CallOk c F a st1 Post [d]) (hd : (x == ("__debug__" : Str)) = false := by decide)
    (he : starEach [e] F.env = [(false, eval e F.env)] := by rfl) : Ev c F l st (.Call (.Name x p) [e] [] pos) Post :=
  Ev.callF hx hf (EvL.cons (Tr.mono h fun _ _ p => EvL.nil p) he) hd he
theorem Ev.call2 {x : Str} {a : Addr} {params : Arguments} {body : List Stmt} {scope : Scope} {e e2 : Expr} {p pos : Pos} (hf : FnAt c x a params body scope) (hx : F.names.lookup x = some .globalImplicit)
    (h : Ev c F l st e fun d st1 => Ev c F l st1 e2 fun d2 st2 => CallOk c F a st2 Post [d, d2]) (hd : (x == ("__debug__" : Str)) = false := by decide)
    (he : starEach [e, e2] F.env = (false, eval e F.env) :: starEach [e2] F.env := by rfl) (he2 : starEach [e2] F.env = [(false, eval e2 F.env)] := by rfl) : Ev c F l st (.Call (.Name x p) [e, e2] [] pos) Post :=
  Ev.callF hx hf (EvL.cons (Tr.mono h fun _ _ p => EvL.cons (Tr.mono p fun _ _ p => EvL.nil p) he2) he) hd he
theorem Ev.call3 {x : Str} {a : Addr} {params : Arguments} {body : List Stmt} {scope : Scope} {e e2 e3 : Expr} {p pos : Pos} (hf : FnAt c x a params body scope) (hx : F.names.lookup x = some .globalImplicit)
    (h : Ev c F l st e fun d st1 => Ev c F l st1 e2 fun d2 st2 => Ev c F l st2 e3 fun d3 st3 => CallOk c F a st3 Post [d, d2, d3]) (hd : (x == ("__debug__" : Str)) = false := by decide)
    (he : starEach [e, e2, e3] F.env = (false, eval e F.env) :: starEach [e2, e3] F.env := by rfl) (he2 : starEach [e2, e3] F.env = (false, eval e2 F.env) :: starEach [e3] F.env := by rfl) (he3 : starEach [e3] F.env = [(false, eval e3 F.env)] := by rfl) :
    Ev c F l st (.Call (.Name x p) [e, e2, e3] [] pos) Post :=
  Ev.callF hx hf (EvL.cons (Tr.mono h fun _ _ p => EvL.cons (Tr.mono p fun _ _ p => EvL.cons (Tr.mono p fun _ _ p => EvL.nil p) he3) he2) he) hd he
theorem Ev.call4 {x : Str} {a : Addr} {params : Arguments} {body : List Stmt} {scope : Scope} {e e2 e3 e4 : Expr} {p pos : Pos} (hf : FnAt c x a params body scope) (hx : F.names.lookup x = some .globalImplicit)
    (h : Ev c F l st e fun d st1 => Ev c F l st1 e2 fun d2 st2 => Ev c F l st2 e3 fun d3 st3 => Ev c F l st3 e4 fun d4 st4 => CallOk c F a st4 Post [d, d2, d3, d4]) (hd : (x == ("__debug__" : Str)) = false := by decide)
    (he : starEach [e, e2, e3, e4] F.env = (false, eval e F.env) :: starEach [e2, e3, e4] F.env := by rfl) (he2 : starEach [e2, e3, e4] F.env = (false, eval e2 F.env) :: starEach [e3, e4] F.env := by rfl) (he3 : starEach [e3, e4] F.env = (false, eval e3 F.env) :: starEach [e4] F.env := by rfl)
    (he4 : starEach [e4] F.env = [(false, eval e4 F.env)] := by rfl) :
    Ev c F l st (.Call (.Name x p) [e, e2, e3, e4] [] pos) Post :=
  Ev.callF hx hf (EvL.cons (Tr.mono h fun _ _ p => EvL.cons (Tr.mono p fun _ _ p => EvL.cons (Tr.mono p fun _ _ p => EvL.cons (Tr.mono p fun _ _ p => EvL.nil p) he4) he3) he2) he) hd he

theorem Ev.tup2 {e₁ e₂ : Expr} {kk : Nat} {pos : Pos} (h : Ev c F l st e₁ fun d₁ st₁ => Ev c F l st₁ e₂ fun d₂ st₂ => Post (.tup [d₁, d₂]) st₂)
    (he : starEach [e₁, e₂] F.env = (false, eval e₁ F.env) :: starEach [e₂] F.env := by rfl) (he2 : starEach [e₂] F.env = [(false, eval e₂ F.env)] := by rfl) : Ev c F l st (.Tuple [e₁, e₂] kk pos) Post :=
  Ev.tup (EvL.cons (Tr.mono h fun _ _ p => EvL.cons (Tr.mono p fun _ _ p => EvL.nil ⟨by simp, p⟩) he2) he)
theorem Ev.tup3 {e₁ e₂ e₃ : Expr} {kk : Nat} {pos : Pos} (h : Ev c F l st e₁ fun d₁ st₁ => Ev c F l st₁ e₂ fun d₂ st₂ => Ev c F l st₂ e₃ fun d₃ st₃ => Post (.tup [d₁, d₂, d₃]) st₃)
    (he : starEach [e₁, e₂, e₃] F.env = (false, eval e₁ F.env) :: starEach [e₂, e₃] F.env := by rfl) (he2 : starEach [e₂, e₃] F.env = (false, eval e₂ F.env) :: starEach [e₃] F.env := by rfl) (he3 : starEach [e₃] F.env = [(false, eval e₃ F.env)] := by rfl) :
    Ev c F l st (.Tuple [e₁, e₂, e₃] kk pos) Post :=
  Ev.tup (EvL.cons (Tr.mono h fun _ _ p => EvL.cons (Tr.mono p fun _ _ p => EvL.cons (Tr.mono p fun _ _ p => EvL.nil ⟨by simp, p⟩) he3) he2) he)
theorem Ev.nil {pos : Pos} (h : Post (.list []) st) : Ev c F l st (.List [] pos) Post := Ev.list (EvL.nil ⟨by simp, h⟩)

/-- membership -/
theorem Is.invKeys {N : Addr → Prop} {h : Heap} {v : Value} {p : Int → Bool} (x : Is c N h v (.keys p)) : ∃ a f, v = .ref a ∧ h.IntMap a f ∧ ¬ N a ∧ ∀ k, (f k).isSome = p k := by
  cases x with | keys hl n r => exact ⟨_, _, rfl, hl, n, r⟩
theorem CmpOk.notInKeys {i : Int} {p : Int → Bool} : CmpOk c .NotIn (.int i) (.keys p) (!p i) := by
  intro B Q E s v₁ v₂ N₁ N₂ r i₁ i₂ q
  obtain ⟨tk, rfl⟩ := i₁.invInt
  obtain ⟨a, f, rfl, hm, _, hv⟩ := i₂.invKeys
  have key : wpAny (model c.prog c.w) B (compareOp .In (.int i tk) (.ref a)) (fun v s' => v = .bool (p i) ∧ Q (.bool (!p i)) s') E s := wpAny_in_intMap hm (by rw [hv i]; exact ⟨rfl, q _⟩)
  have e1 : compareOp .In (.int i tk) (.ref a) = (do return .bool (← contains (.ref a) (.int i tk))) := by rfl
  have e2 : compareOp .NotIn (.int i tk) (.ref a) = (do let v ← (do return .bool (← contains (.ref a) (.int i tk)) : Sem Value); match v with | .bool b => pure (.bool (!b)) | v => pure v) := by
    show (do return .bool (!(← contains (.ref a) (.int i tk))) : Sem Value) = _
    simp
  rw [e2, ← e1]
  refine wpAny_bind (wpAny_mono key (fun v s' ⟨hv, h⟩ => ?_) fun _ _ e => e)
  subst hv
  exact wpAny_pure h
theorem pys_any (n : Nat) (d : D) (hd : D.ok n d = true) : ∀ (ds : List D), (∀ e ∈ ds, D.ok n e = true) → ((D.pys ds).any (fun y => PyData.eqv y d.py) = true ↔ d ∈ ds)
  | [], _ => by simp [D.pys]
  | e :: ds, h => by
    have q := py_eqv n e d n (h e (.head _)) hd
    have r := pys_any n d hd ds fun x hx => h x (.tail _ hx)
    simp only [D.pys, List.any_cons, Bool.or_eq_true, q, r, List.mem_cons]
    exact or_congr ⟨Eq.symm, Eq.symm⟩ Iff.rfl
theorem CmpOk.notInList {d : D} {ds : List D} {b : Bool} (h₁ : D.ok 8 d = true) (h₂ : ∀ e ∈ ds, D.ok 8 e = true) (h : b = true ↔ d ∉ ds) : CmpOk c .NotIn d (.list ds) b := by
  intro B Q E s v₁ v₂ N₁ N₂ r i₁ i₂ q
  obtain ⟨as, ra⟩ := i₁.reads 8 h₁
  obtain ⟨bs, rb⟩ := i₂.reads 9 (D.ok_list.mpr h₂)
  have la := py_lay 8 d h₁
  have lb := py_lay 9 (.list ds) (D.ok_list.mpr h₂)
  have e : (!(D.pys ds).any (fun y => PyData.eqv y d.py)) = b := by rw [Bool.eq_iff_iff, h, Bool.not_eq_true', ← Bool.not_eq_true]; exact not_congr (pys_any 8 d h₁ ds h₂)
  refine SeqAt.notIn_list_reads (xs := D.pys ds) (by simpa [D.py] using rb) ra (by simpa [D.py, PyData.canLay0] using lb.1) la.1 ?_ (by rw [e]; exact q s.toks)
  have := r.2.2
  have h3 := la.2
  have h4 : min (PyData.depthAll (D.pys ds)) d.py.depth ≤ 8 := Nat.le_trans (Nat.min_le_right _ _) h3
  rw [cLine_is]; lia

/-- two of a three-tuple -/
theorem tup_two {B : Around} {s : Shared} {t sl : Addr} {v1 v2 v3 : Value} {u : Tok} {Q : Value → Shared → Prop} {E : Value → Shared → Prop} (ht : IsTup s.heap t #[v1, v2, v3]) (hs : s.heap.IsSliceOf sl .none (.int 2 u) .none)
    (h : Q (.ref s.heap.objs.size) { s with heap := s.heap.push { cls := .type "tuple", data := .seq #[v1, v2] } }) : wpAny (model c.prog c.w) B (getItem (.ref t) (.ref sl)) Q E s := by
  have hdrop : sizeOk (.seq #[v1, v2]) := by
    show (2 : Nat) ≤ sizeLine
    rw [sizeLine_eq]; lia
  obtain ⟨os, hos, hcs, hds⟩ := id hs
  have hTs : s.TypeIs (.ref sl) "slice" := ⟨os, hos, hcs⟩
  unfold getItem
  try with_reducible refine wpAny_holding ?_
  first | refine wpAny_bind (wpAny_pure ?_) | skip
  refine wpAny_bind (wpAny_sequenceKey ht.typeIs (by decide) ?_)
  refine wpAny_bind (wpAny_callSpecial?_slot (name := Str.ofString "__getitem__") ht.typeIs slot_tuple_getitem
    (wpAny_call_entry slot_tuple_getitem ht.typeIs entry_tuple_getitem ?_ (args_tuple_getitem _ _)))
  show wpAny _ _ (Builtin.Tuple.tupleItemsOf (.ref t) >>= _) _ _ s
  refine wpAny_bind (tupleItemsOf_ ht ?_)
  refine wpAny_bind (wpAny_typeOf hTs ?_)
  rw [if_pos (by decide)]
  have applied : ∀ {Q : Int × Int × Nat → Shared → Prop}, Q (0, 1, 2) s → wpAny (model c.prog c.w) B.in1 (Builtin.Slice.sliceApplied (.ref sl) (pure ((3 : Nat) : Int))) Q E s := by
    intro Q h
    unfold Builtin.Slice.sliceApplied Builtin.Slice.sliceFields
    refine wpAny_bind (wpAny_bind (wpAny_field hos hds (x := .none) rfl (wpAny_bind (wpAny_field hos hds (x := .int 2 u) rfl (wpAny_bind (wpAny_field hos hds (x := .none) rfl (wpAny_pure ?_)))))))
    refine wpAny_bind (PyProof.Rows.slicePart_none ?_)
    show wpAny _ _ (if ((1 : Int) == 0) = true then _ else _) _ _ s
    rw [if_neg (by decide)]
    refine wpAny_bind (PyProof.Rows.slicePart_none (wpAny_bind (PyProof.Rows.slicePart_int (wpAny_bind (wpAny_pure ?_)))))
    exact wpAny_pure h
  refine wpAny_bind (applied ?_)
  show wpAny _ _ (if ((0 : Int) == 0 && (1 : Int) == 1 && ((2 : Nat) == 3)) = true then _ else _) _ _ s
  rw [if_neg (by decide)]
  first
    | exact wpAny_bind (m := Builtin.Tuple.tupleExact _) (wpAny_newObj_type (wpAny_pure ⟨_, rfl, wpAny_pure h⟩) hdrop)
    | exact wpAny_bind (m := Builtin.Tuple.tupleExact _) (wpAny_newObj_type (wpAny_bind (wpAny_pure (wpAny_pure ⟨_, rfl, wpAny_pure h⟩))) hdrop)
    | exact wpAny_bind (wpAny_bind (m := Builtin.Tuple.tupleExact _) (wpAny_newObj_type (wpAny_pure (wpAny_pure ⟨_, rfl, wpAny_pure h⟩)) hdrop))
    | exact wpAny_bind (wpAny_bind (m := Builtin.Tuple.tupleExact _) (wpAny_newObj_type (wpAny_pure ⟨_, rfl, wpAny_pure h⟩) hdrop))
theorem Ev.tupTwo {e₁ : Expr} {kk : Nat} {p1 p pos : Pos} (h : Ev c F l st e₁ fun d₁ st₁ => ∃ x y z, d₁ = .tup [x, y, z] ∧ Post (.tup [x, y]) st₁) :
    Ev c F l st (.Subscript e₁ (.Slice Option.none (some (.Constant (.int 2) kk p1)) Option.none p) pos) Post := by
  intro A P ow m s Q E X k
  refine PyProof.Rows.Subscript_ (h A P ow m s _ E X fun v₁ d₁ n₁ s₁ p₁ X₁ i₁ e₁ => ?_)
  refine wpAny_Slice ?_
  rw [evalPart_none, evalPart_some]
  refine wpAny_pure (wpAny_Constant_int (wpAny_pure ?_))
  obtain ⟨x, y, z, rfl, pp⟩ := p₁
  obtain ⟨a, vs, rfl, ht, n, r⟩ := i₁.invTup
  obtain ⟨v1, v2, v3, rfl, j1, j2, j3⟩ := r.inv3
  have X1 := (X₁.tok (s₁.toks + 1)).keep (tk := s₁.toks + 1) (push_keep { cls := .type "slice", data := .fields #[.none, .int 2 s₁.toks, .none] })
  have X2 := X1.keep (tk := s₁.toks + 1) (push_keep { cls := .type "tuple", data := .seq #[v1, v2] })
  have ht' : IsTup (s₁.heap.push { cls := .type "slice", data := .fields #[.none, .int 2 s₁.toks, .none] }) a #[v1, v2, v3] := ht.keeps fun _ _ e => Heap.get?_push_of_some _ e
  refine subTail (s := { s₁ with heap := s₁.heap.push { cls := .type "slice", data := .fields #[.none, .int 2 s₁.toks, .none] }, toks := s₁.toks + 1 }) rfl ht'.typeIs slot_tuple_getitem.lookup ?_
  refine tup_two ht' ⟨_, Heap.get?_push_size _ rfl, rfl, rfl⟩ ?_
  have mv : ∀ {v d}, Is c (Av F l A st ow) s₁.heap v d → Is c (Av F l A st ow) ((s₁.heap.push { cls := .type "slice", data := .fields #[.none, .int 2 s₁.toks, .none] }).push { cls := .type "tuple", data := .seq #[v1, v2] }) v d := fun i => i.ext fun a o e nn => ⟨push_keep _ _ _ (push_keep _ _ _ e), nn⟩
  refine k _ _ n₁ _ pp X2 (.tup (vs := [v1, v2]) ⟨_, Heap.get?_push_size _ rfl, rfl, _, rfl⟩ (Is.newN (st := { st with tb := n₁ }) X1) (.cons (mv j1) (.cons (mv j2) .nil))) ((e₁.trans (Ext1.push _)).trans (Ext1.push _))

/-- x, y = [], e -/
theorem Ex1.swapOwn {x y : Str} {px py lp ep : Pos} {kk k3 : Nat} {tp pos : Pos} {e : Expr} {i j : Nat} {k k' : NameKind}
    (hi : slotOf F.names x = some (i, k)) (hk : canStore F x k = true) (hj : slotOf F.names y = some (j, k')) (hk' : canStore F y k' = true) (hown : st.own = Option.none)
    (h : Ev c F true st e fun d st' => N { vars := ((st'.vars.set j (some d)).set i Option.none), own := some (i, .list []), plain := true, tb := st'.tb })
    (he : starEach [.List [] lp, e] F.env = (false, eval (.List [] lp) F.env) :: starEach [e] F.env := by rfl) (he2 : starEach [e] F.env = [(false, eval e F.env)] := by rfl)
    (hs : swapsWithSole [.Tuple [.Name x px, .Name y py] kk tp] (.Tuple [.List [] lp, e] k3 ep) pos.line F.env = pure false := by rfl) (hw : swappedStores [.Tuple [.Name x px, .Name y py] kk tp] (.Tuple [.List [] lp, e] k3 ep) F.env = pure (some [x, y]) := by rfl) :
    Ex1 c F st (.Assign [.Tuple [.Name x px, .Name y py] kk tp] (.Tuple [.List [] lp, e] k3 ep) pos) N T := by
  intro A P ow m s Q E X kN kR
  refine PyProof.Rows.Assign_Tuple_swapped (PyProof.Rows.Tuple_ (PyProof.Rows.spliced_more (PyProof.Rows.List_ (PyProof.Rows.spliced_none (wpAny_newObj_type ?_ (by show ([] : List Value).toArray.size ≤ sizeLine; rw [sizeLine_eq]; simp)))) he)) hs hw
  have hfr : s.heap.get? s.heap.objs.size = none := none_at (Nat.le_refl _)
  have old : ∀ {b : Addr}, (∃ o, s.heap.get? b = some o) → s.heap.objs.size ≠ b := fun ⟨o, e⟩ q => by rw [← q, hfr] at e; cases e
  have X1 := X.more (B := fun b => b = s.heap.objs.size) (R := fun b => b = s.heap.objs.size) (tk := s.toks) (push_keep { cls := .type "list", dict := none, data := .seq ([] : List Value).toArray }) (fun b q => by subst q; exact ⟨hfr, _, Heap.get?_push_size _ rfl⟩)
    (fun b q => by subst q; exact ⟨fun z => old (X.Mex z) rfl, old X.dkex, _, Heap.get?_push_size _ rfl⟩)
  generalize hD : s.heap.objs.size = a at *
  have e0 : (s.heap.push { cls := .type "list", dict := none, data := .seq ([] : List Value).toArray }).get? a = some { cls := .type "list", dict := none, data := .seq ([] : List Value).toArray } := by rw [← hD]; exact Heap.get?_push_size _ rfl
  refine PyProof.Rows.spliced_more (h _ _ ow m _ _ E X1 fun v d n s2 p X2 iv e2 => PyProof.Rows.spliced_none (wpAny_newObj_type ?_ (by show (2 : Nat) ≤ sizeLine; rw [sizeLine_eq]; lia))) he2
  have hadk : a ≠ c.dk := old X.dkex
  have e1 : s2.heap.get? a = some _ := e2 _ _ e0 hadk
  generalize hO : ({ cls := .type "tuple", dict := none, data := .seq [Value.ref a, v].toArray } : Obj) = tob
  have X3 := X2.keep (tk := s2.toks) (push_keep tob)
  have ht : IsTup (s2.heap.push tob) s2.heap.objs.size [Value.ref a, v].toArray := ⟨_, Heap.get?_push_size _ (by rw [← hO]; rfl), by rw [← hO], _, by rw [← hO]⟩
  refine PyProof.Rows.unpackItems_tuple (s := { s2 with heap := s2.heap.push tob }) (items := [Value.ref a, v].toArray) X.wf.room.1 ht fun h1 hx => ?_
  have k1 : ∀ b o, (s2.heap.push tob).get? b = some o → h1.get? b = some o := fun b o e => hx b o (Nat.ne_of_lt (Heap.lt_size e)) e
  have X4 := X3.keep (tk := s2.toks) k1
  have iv4 : Is c (fun b => (A b ∨ b = a) ∨ Mm F { st with tb := n } ow b) h1 v d := iv.ext fun b o e nn => ⟨k1 _ _ (push_keep _ _ _ e), fun q => nn (q.imp id fun q => ⟨rfl, q⟩)⟩
  show wpAny _ _ (do holding [Value.ref a] (bindName F.env y v); assignInOrder [fun v => bindName F.env x v] [Value.ref a]) _ _ _
  refine wpAny_bind (wpAny_holding (PyProof.Rows.bindName_ (store_dat X4 (slotOf_get hj) hk' (by unfold ownAt; rw [hown]; rfl) iv4 fun h2 tk m2 X5 step => ?_)))
  show wpAny _ _ (do holding [] (bindName F.env x (.ref a)); assignInOrder [] []) _ _ _
  have aL : a ≠ F.env.locals := old (X.Mex (.inl rfl))
  have aO : ∀ y, (y, a) ∉ F.own := fun y q => old (X.Mex (.inr (.inl ⟨y, q⟩))) rfl
  have e5 : h2.get? a = some _ := step _ _ (k1 _ _ (push_keep _ _ _ e1)) aL aO
  have X5' := X5.less (A := fun b => A b ∨ b = a) (P := P) (fun _ q => q) (fun _ q => .inl q) (.inl X.Adk)
  refine wpAny_bind (wpAny_holding (PyProof.Rows.bindName_ (store_own2 X5' (slotOf_get hi) hk (fun q => old (X.Alt _ q) rfl) (fun q => old (X.Plt _ q) rfl) aL aO (none_before (fun o e => ⟨o, X.mid.base _ o e⟩) hfr) (old X.dcex) hadk X.Adk (fun z cl hz => by
      obtain ⟨v, o, e, _⟩ := X.cells z cl hz
      exact (old ⟨o, e⟩).symm) (.list (vs := []) (ds := []) ⟨_, e5, rfl, _, rfl⟩ (fun _ => ⟨_, e5⟩) .nil) fun h3 tk3 m3 X6 step3 => ?_)))
  refine wpAny_pure (kN _ a m3 _ p X6 ?_)
  refine fun b o q e => ?_
  have nM : ¬ Mm F st ow b := X.PM b q
  have z1 := step b o (k1 _ _ (push_keep _ _ _ (e2 b o (push_keep _ _ _ e) fun z => X.Pdk (z ▸ q)))) (fun z => nM (.inl z)) (fun y z => nM (.inr (.inl ⟨y, z⟩)))
  exact step3 b o z1 (fun z => nM (.inl z)) (fun y z => nM (.inr (.inl ⟨y, z⟩)))
end
end Mine

set_option maxRecDepth 100000
namespace Mine
open PySem PySem.W PyProof.Rows PySem.Calls

section
variable {c : Cx} {F : Fm} {l : Bool} {st : St} {N : St → Prop} {T : D → Nat → Prop}

theorem deck_raw {P A : Addr → Prop} {ow : Addr} {m : Str → Option Value} {s : Shared} {x : Str} {pp p1 pos : Pos} {kk : Nat} {q : Int} {Q : Value → Shared → Prop} {E : Value → Shared → Prop} (X : Core c F A P st s ow m) (hx : look F.names st.vars x = some .deck) {its : Array Value} (hl : s.heap.IsList c.dk its) {v : Value} (h0 : 0 ≤ q) (h1 : q < 100) (hv : its[q.toNat]? = some v)
    (k : Q v { s with toks := s.toks + 1 }) (hd : (x == ("__debug__" : Str)) = false) (hcd : (x == ("__classdict__" : Str)) = false) : wpAny (model c.prog c.w) F.A (eval (.Subscript (.Name x pp) (.Constant (.int q) kk p1) pos) F.env) Q E s := by
  obtain ⟨i, kk, hn, hvv⟩ := look_idx hx
  obtain ⟨y, k', vv, hn', hh, hi⟩ := X.var i _ hvv
  rw [hn] at hn'; cases hn'
  have e : vv = .ref c.dk := by cases hi; rfl
  subst e
  refine PyProof.Rows.Subscript_ (wpAny_Name (load_holds X hn hh ?_ hcd) hd)
  refine wpAny_Constant_int ?_
  exact subTail (s := { s with toks := s.toks + 1 }) rfl hl.typeIs slot_list_getitem.lookup (wpAny_getItem_list hl h0 (by lia) hv k)

/-- deck[1] = deck[1] + 1; turn, cells = deck[1], deck[0] -/
theorem Ex.deckStep {d t u : Str} {q1 q2 q3 q4 q5 q6 q7 q8 q9 r1 r2 r3 r4 r5 r6 r7 r8 r9 r10 : Pos} {k1 k2 k3 k4 k5 kk k6 : Nat} {rest : List Stmt} {i j : Nat} {k k' : NameKind}
    (hx : look F.names st.vars d = some .deck) (hi : slotOf F.names t = some (i, k)) (hk : canStore F t k = true) (ho : (ownAt st == some i) = false) (hj : slotOf F.names u = some (j, k')) (hk' : canStore F u k' = true) (ho' : (ownAt st == some j) = false)
    (h : ∀ n : Int, 1 ≤ n → n ≤ (st.tb + 1 : Nat) → Ex c F ((({ st with tb := st.tb + 1 } : St).setv j (.list (c.cells.map .int))).setv i (.int n)) rest N T)
    (hd : (d == ("__debug__" : Str)) = false := by decide) (hcd : (d == ("__classdict__" : Str)) = false := by decide)
    (he : starEach [.Subscript (.Name d r1) (.Constant (.int 1) k4 r2) r3, .Subscript (.Name d r4) (.Constant (.int 0) k5 r5) r6] F.env = (false, eval (.Subscript (.Name d r1) (.Constant (.int 1) k4 r2) r3) F.env) :: starEach [.Subscript (.Name d r4) (.Constant (.int 0) k5 r5) r6] F.env := by rfl)
    (he2 : starEach [.Subscript (.Name d r4) (.Constant (.int 0) k5 r5) r6] F.env = [(false, eval (.Subscript (.Name d r4) (.Constant (.int 0) k5 r5) r6) F.env)] := by rfl)
    (hsw : swapsWith (.BinOp (.Subscript (.Name d q4) (.Constant (.int 1) k2 q5) q6) .Add (.Constant (.int 1) k3 q7) q8) (some (.Subscript (.Name d q1) (.Constant (.int 1) k1 q2) q3)) q9.line F.env = pure false := by rfl)
    (hs : swapsWithSole [.Tuple [.Name t r7, .Name u r8] kk r9] (.Tuple [.Subscript (.Name d r1) (.Constant (.int 1) k4 r2) r3, .Subscript (.Name d r4) (.Constant (.int 0) k5 r5) r6] k6 r10) q9.line F.env = pure false := by rfl)
    (hw : swappedStores [.Tuple [.Name t r7, .Name u r8] kk r9] (.Tuple [.Subscript (.Name d r1) (.Constant (.int 1) k4 r2) r3, .Subscript (.Name d r4) (.Constant (.int 0) k5 r5) r6] k6 r10) F.env = pure (some [t, u]) := by rfl) {r11 : Pos} :
    Ex c F st (.Assign [.Subscript (.Name d q1) (.Constant (.int 1) k1 q2) q3] (.BinOp (.Subscript (.Name d q4) (.Constant (.int 1) k2 q5) q6) .Add (.Constant (.int 1) k3 q7) q8) q9 ::
      .Assign [.Tuple [.Name t r7, .Name u r8] kk r9] (.Tuple [.Subscript (.Name d r1) (.Constant (.int 1) k4 r2) r3, .Subscript (.Name d r4) (.Constant (.int 0) k5 r5) r6] k6 r10) r11 :: rest) N T := by
  intro A P ow m s Q E X kN kR
  obtain ⟨t0, tk0, vs, h0, h1, hl, hl2, hci, hne⟩ := X.mid.deck
  refine wpAny_execs_cons (wpAny_Assign_Subscript (wpAny_BinOp (deck_raw X hx hl (v := .int t0 tk0) (by decide) (by decide) rfl (wpAny_Constant_int (PyProof.Rows.add_int ?_)) hd hcd)) hsw)
  obtain ⟨di, dkk, hn, hvv⟩ := look_idx hx
  obtain ⟨y, k2', vv, hn', hh, hi2⟩ := X.var di _ hvv
  rw [hn] at hn'; cases hn'
  have e : vv = .ref c.dk := by cases hi2; rfl
  subst e
  generalize htk : s.toks + 1 + 1 = tk1
  have X1 := X.tok (tk1 + 1)
  refine wpAny_Name (load_holds X1 hn hh ?_ hcd) hd
  refine wpAny_Constant_int ?_
  refine wpAny_setItem_list (s := { s with toks := _ }) hl (by decide) (by decide) (by simp) fun h' hl' hs' => ?_
  have ex : Ext1 c s.heap h' := fun a o e nn => (hs'.2 a nn).trans e
  have hl2' : h'.IsList c.dc vs.toArray := let ⟨o, e, r⟩ := hl2; ⟨o, ex _ _ e hne, r⟩
  have hl3 : h'.IsList c.dk #[.ref c.dc, .int (t0 + 1) tk1] := by simpa using hl'
  have hD : DeckAt c (st.tb + 1) h' := ⟨t0 + 1, tk1, vs, by lia, by lia, hl3, hl2', hci, hne⟩
  have X3 := X.step (tk := tk1 + 1 + 1) ex hD
  have kp := keep_of_ext1 X ex
  refine wpAny_execs_cons (PyProof.Rows.Assign_Tuple_swapped (PyProof.Rows.Tuple_ (PyProof.Rows.spliced_more (deck_raw X3 (by exact hx) hl3 (v := .int (t0 + 1) tk1) (by decide) (by decide) rfl ?_ hd hcd) he)) hs hw)
  have X4 := X3.tok (tk1 + 1 + 1 + 1)
  refine PyProof.Rows.spliced_more (deck_raw X4 (by exact hx) hl3 (v := .ref c.dc) (by decide) (by decide) rfl (PyProof.Rows.spliced_none (wpAny_newObj_type ?_ (by show (2 : Nat) ≤ sizeLine; rw [sizeLine_eq]; lia))) hd hcd) he2
  have X5 := X4.tok (tk1 + 1 + 1 + 1 + 1)
  generalize hO : ({ cls := .type "tuple", dict := none, data := .seq [Value.int (t0 + 1) tk1, Value.ref c.dc].toArray } : Obj) = tob
  have X6 := X5.keep (tk := tk1 + 1 + 1 + 1 + 1) (push_keep tob)
  have ht : IsTup (h'.push tob) h'.objs.size [Value.int (t0 + 1) tk1, Value.ref c.dc].toArray := ⟨_, Heap.get?_push_size _ (by rw [← hO]; rfl), by rw [← hO], _, by rw [← hO]⟩
  refine PyProof.Rows.unpackItems_tuple (s := { s with heap := h'.push tob, toks := tk1 + 1 + 1 + 1 + 1 }) (items := [Value.int (t0 + 1) tk1, Value.ref c.dc].toArray) X.wf.room.1 ht fun h1' hx' => ?_
  have kk1 : ∀ a o, (h'.push tob).get? a = some o → h1'.get? a = some o := fun a o e => hx' a o (Nat.ne_of_lt (Heap.lt_size e)) e
  have X7 := X6.keep (tk := tk1 + 1 + 1 + 1 + 1) kk1
  show wpAny _ _ (do holding [Value.int (t0 + 1) tk1] (bindName F.env u (.ref c.dc)); assignInOrder [fun v => bindName F.env t v] [Value.int (t0 + 1) tk1]) _ _ _
  have hl4 : h1'.IsList c.dc vs.toArray := let ⟨o, e, r⟩ := hl2'; ⟨o, kk1 _ _ (push_keep _ _ _ e), r⟩
  refine wpAny_bind (wpAny_holding (PyProof.Rows.bindName_ (store_dat X7 (slotOf_get hj) hk' (by exact ho') (.list hl4 (fun q => X.Avdc true (q.imp id fun q => ⟨rfl, q⟩)) (.ofInts hci)) fun h2 tk2 m2 X8 step => ?_)))
  show wpAny _ _ (do holding [] (bindName F.env t (.int (t0 + 1) tk1)); assignInOrder [] []) _ _ _
  refine wpAny_bind (wpAny_holding (PyProof.Rows.bindName_ (store_dat X8 (slotOf_get hi) hk (by exact ho) (.int _ _) fun h3 tk3 m3 X9 step3 => wpAny_pure ?_)))
  have kp9 : Keep P s.heap h3 := ((kp.trans (Keep.of fun b o e => kk1 _ _ (push_keep _ _ _ e))).trans (SlotStep.keep X7 step)).trans (SlotStep.keep X8 step3)
  exact h (t0 + 1) (by lia) (by lia) A P ow m3 _ Q E X9 (fun st' ow' m' s' p X' kp' => kN st' ow' m' s' p X' (kp9.trans kp')) fun v d n s' p M kp' iv => kR v d n s' p M (kp9.trans kp') iv
end

theorem ok_ints (n : Nat) (xs : List Int) : D.ok (n + 1) (.list (xs.map .int)) = true := by
  rw [D.ok_list]; intro d hd; obtain ⟨i, _, rfl⟩ := List.mem_map.mp hd; cases n <;> rfl
theorem fmod_range {a b : Int} (hb : 0 < b) : 0 ≤ a.fmod b ∧ a.fmod b < b := ⟨Int.fmod_nonneg_of_pos a hb, Int.fmod_lt_of_pos a hb⟩

section
variable {c : Cx} {f : Addr}

set_option maxHeartbeats 1000000 in
theorem fn_draw (H : FnAt c "_law_draw" f (fA 12) (fB 12) (fC 12)) (b : Int) (hb : 0 < b) : Fn c f 1 1 [.deck, .int b] fun d => ∃ r, d = .int r ∧ 0 ≤ r ∧ r < b := by
  refine Fn.of H (ps := ["deck", "below"]) (fun pm code doc vs hv => ?_) (by rfl) fun pm code doc L B n hn => ?_
  · obtain ⟨a, b, rfl⟩ := len2 hv rfl
    rfl
  have hc := c.clen
  have hn2 : n + 1 ≤ 100000 := hn
  refine Ex.deckStep (by rfl) (by rfl) (by rfl) (by rfl) (by rfl) (by rfl) (by rfl) fun t ht1 ht2 => ?_
  refine Ex.cons (Ex1.ite (Tst.cmp (Ev.name (d := .int t) (by rfl) (Ev.len (by rfl) (Ev.name (d := .list (c.cells.map .int)) (by rfl) ⟨_, rfl, by rw [List.length_map]; lia, decide (t ≤ ((c.cells.map D.int).length : Int)), CmpOk.int (by rfl), fun hq => ?_, fun hq => ?_⟩)))))
  · have hq' : t ≤ (c.cells.length : Int) := by simpa using hq
    have hlt : (t - 1).toNat < c.cells.length := by lia
    refine Ex.cons (Ex1.ret (Ev.mod (Ev.item (Ev.name (d := .list (c.cells.map .int)) (by rfl) (Ev.sub (Ev.name (d := .int t) (by rfl) (Ev.int ⟨_, _, rfl, rfl, .int (c.cells[(t - 1).toNat]), .list (by lia) (by lia) (by rw [List.getElem?_map, List.getElem?_eq_getElem hlt]; rfl), ?_⟩)))))))
    exact Ev.name (d := .int b) (by rfl) ⟨_, _, rfl, rfl, by lia, ⟨_, rfl, (fmod_range hb).1, (fmod_range hb).2⟩, Nat.le_refl _⟩
  · refine Ex.nil (Ex.cons (Ex1.assign (i := 4) (k := .local) (by rfl) (by rfl) (by rfl) (Tr.mono (Post := fun d st' => ∃ cell : Int, d = .int cell ∧ st' = { vars := [some .deck, some (.int b), some (.int t), some (.list (c.cells.map .int)), Option.none, Option.none, Option.none], tb := n + 1 }) (Ev.ifexp (Tst.cmp (Ev.name (d := .list (c.cells.map .int)) (by rfl) (Ev.nil ⟨decide (c.cells ≠ []), CmpOk.ne (ok_ints 7 _) (by rfl) (by simp), fun hq => ?_, fun hq => ?_⟩)))) fun d st' ⟨cell, hd, hs⟩ => ?_)))
    · have hne : c.cells ≠ [] := by simpa using hq
      have hpos : 0 < c.cells.length := List.length_pos_iff.mpr hne
      refine Ev.item (Ev.name (d := .list (c.cells.map .int)) (by rfl) (Ev.mod (Ev.name (d := .int t) (by rfl) (Ev.len (by rfl) (Ev.name (d := .list (c.cells.map .int)) (by rfl) ⟨_, rfl, by rw [List.length_map]; lia, t, ((c.cells.map D.int).length : Int), rfl, rfl, ?_, .int (c.cells[(t.fmod ((c.cells.map D.int).length : Int)).toNat]?.getD 0), .list ?_ ?_ ?_, ⟨_, rfl, rfl⟩⟩)))))
      · simp; lia
      · exact (fmod_range (by simp; lia)).1
      · have := (fmod_range (a := t) (b := ((c.cells.map D.int).length : Int)) (by simp; lia)).2
        simp only [List.length_map] at this ⊢
        lia
      · have h1 := fmod_range (a := t) (b := ((c.cells.map D.int).length : Int)) (by simp; lia)
        simp only [List.length_map] at h1 ⊢
        have : (t.fmod (c.cells.length : Int)).toNat < c.cells.length := by lia
        rw [List.getElem?_map, List.getElem?_eq_getElem this]; rfl
    · exact Ev.int ⟨_, rfl, rfl⟩
    · subst hd hs
      have ht3 : t ≤ 100000 := by have : t ≤ ((n + 1 : Nat) : Int) := ht2; lia
      have h3 := fmod_range (a := cell) (b := 2147483629) (by decide)
      have h4 : 60013 * t ≤ 60013 * 100000 := by lia
      have h5 : 0 ≤ 60013 * t := by lia
      refine Ex.cons (Ex1.assign (i := 5) (k := .local) (by rfl) (by rfl) (by rfl) ?_)
      refine Ev.mod (Ev.mul (Ev.add (Ev.add (Ev.mod (Ev.name (d := .int cell) (by rfl) (Ev.int ⟨_, _, rfl, rfl, by decide, ?_⟩))))))
      refine Ev.mul (Ev.mul (Ev.int (Ev.name (d := .int t) (by rfl) ⟨_, _, rfl, rfl, .of_left (by decide), ?_⟩)))
      refine Ev.name (d := .int t) (by rfl) ⟨_, _, rfl, rfl, .of_right (intBits_le_64 (by lia) (by lia)), ?_⟩
      refine ⟨_, _, rfl, rfl, Ev.int ⟨_, _, rfl, rfl, Ev.int ⟨_, _, rfl, rfl, .of_right (by decide), Ev.int ⟨_, _, rfl, rfl, by decide, ?_⟩⟩⟩⟩
      have hm := fmod_range (a := (cell.fmod 2147483629 + 60013 * t * t + 17) * 48271) (b := 2147483647) (by decide)
      generalize ((cell.fmod 2147483629 + 60013 * t * t + 17) * 48271).fmod 2147483647 = m at hm
      refine Ex.cons (Ex1.assign (i := 5) (k := .local) (by rfl) (by rfl) (by rfl) ?_)
      refine Ev.mod (Ev.add (Ev.mul (Ev.name (d := .int m) (by rfl) (Ev.name (d := .int m) (by rfl) ⟨_, _, rfl, rfl, .of_left (intBits_le_64 (by lia) (by lia)), ?_⟩))))
      refine Ev.name (d := .int t) (by rfl) ⟨_, _, rfl, rfl, Ev.int ⟨_, _, rfl, rfl, by decide, ?_⟩⟩
      have hm2 := fmod_range (a := m * m + t) (b := 2147483579) (by decide)
      generalize (m * m + t).fmod 2147483579 = m2 at hm2
      refine Ex.cons (Ex1.ret (Ev.mod (Ev.floordiv (Ev.name (d := .int m2) (by rfl) (Ev.int ⟨_, _, rfl, rfl, by decide, by decide, ?_⟩)))))
      exact Ev.name (d := .int b) (by rfl) ⟨_, _, rfl, rfl, by lia, ⟨_, rfl, (fmod_range hb).1, (fmod_range hb).2⟩, Nat.le_refl _⟩
end
end Mine

set_option maxRecDepth 100000
namespace Mine
open PySem PySem.W PyProof.Rows PySem.Calls

abbrev Lv := List (List Int)
abbrev Row := Int × Int × Lv
noncomputable def ws2D (ws : List Int) : D := .list (ws.map .int)
noncomputable def lvs (l : Lv) : List D := l.map ws2D
noncomputable def rowD (r : Row) : D := .tup [.int r.1, .int r.2.1, .list (lvs r.2.2)]
noncomputable def pieceD (r : Row) : D := .piece r.1 r.2.1 (lvs r.2.2)
noncomputable def isIdle (l : Lv) : Bool := l.all (·.isEmpty)

theorem ok_ws (n : Nat) (ws : List Int) : D.ok (n + 1) (ws2D ws) = true := ok_ints n ws
theorem ok_lvs (n : Nat) (l : Lv) : D.ok (n + 2) (.list (lvs l)) = true := by
  rw [D.ok_list]; intro d hd; obtain ⟨i, _, rfl⟩ := List.mem_map.mp hd; exact ok_ws n i
theorem map_int_inj : ∀ {a b : List Int}, a.map D.int = b.map D.int → a = b
  | [], [], _ => rfl
  | x :: a, y :: b, h => by
    simp only [List.map_cons, List.cons.injEq, D.int.injEq] at h
    rw [h.1, map_int_inj h.2]
  | [], _ :: _, h => by simp at h
  | _ :: _, [], h => by simp at h
theorem ws2D_inj {a b : List Int} (h : ws2D a = ws2D b) : a = b := map_int_inj (by unfold ws2D at h; exact D.list.inj h)
theorem lvs_inj : ∀ {a b : Lv}, lvs a = lvs b → a = b
  | [], [], _ => rfl
  | x :: a, y :: b, h => by
    simp only [lvs, List.map_cons, List.cons.injEq] at h
    rw [ws2D_inj h.1, lvs_inj (a := a) (b := b) h.2]
  | [], _ :: _, h => by simp [lvs] at h
  | _ :: _, [], h => by simp [lvs] at h
theorem rowD_inj {a b : Row} (h : rowD a = rowD b) : a = b := by
  obtain ⟨x, y, z⟩ := a
  obtain ⟨x', y', z'⟩ := b
  simp only [rowD, D.tup.injEq, List.cons.injEq, D.int.injEq, D.list.injEq, and_true] at h
  rw [h.1, h.2.1, lvs_inj h.2.2]

section
variable {c : Cx} {F : Fm} {l : Bool} {st : St} {Post : D → St → Prop} {N : St → Prop} {T : D → Nat → Prop}

theorem It.mono {tgt e : Expr} {P P' : List D → St → Prop} (h : It c F st tgt e l P) (hP : ∀ xs st, P xs st → P' xs st) : It c F st tgt e l P' :=
  fun A P ow m s Q E X k => h A P ow m s Q E X fun xs n I fp wr Sn src s' p => k xs n I fp wr Sn src s' (hP _ _ p)

theorem IfsT.one {t : Expr} {B : Bool → St → Prop} (h : Tst c F st t B) : IfsT c F st [t] B := h
theorem IfsT.nil {B : Bool → St → Prop} (h : B true st) : IfsT c F st [] B := h

noncomputable def nonE : D → Bool
  | .list [] => false
  | _ => true
theorem nonE_ws (ws : List Int) : nonE (ws2D ws) = !ws.isEmpty := by cases ws <;> rfl
theorem idle_filter (lv : Lv) : (lvs lv).filter nonE = [] ↔ isIdle lv = true := by
  unfold isIdle lvs
  rw [List.filter_eq_nil_iff, List.all_eq_true]
  constructor
  · intro h w hw
    have := h (ws2D w) (List.mem_map_of_mem hw)
    rw [nonE_ws] at this
    simpa using this
  · intro h d hd
    obtain ⟨w, hw, rfl⟩ := List.mem_map.mp hd
    rw [nonE_ws, h w hw]; simp

/-- [x for x in e if x != []] == [] -/
theorem Ev.idleCmp {x : Str} {iter : Expr} {px p1 p2 p3 p4 p5 p6 p7 : Pos} {scope : Scope} (hn : scope.names = [((".0" : Str), .local), (x, .local)]) (h0 : ((".0" : Str) == x) = false) (h1 : (x == ("__debug__" : Str)) = false) (h2 : (x == ("__classdict__" : Str)) = false)
    (h : It c F st (.Name x px) iter false fun xs st' => ∃ lv : Lv, xs = lvs lv ∧ lv.length ≤ 1000 ∧ Post (.bool (isIdle lv)) st') (hkind : scope.kind = .function := by rfl) (hs : ∀ x, foldedSetIterable iter F.env x = pure x := by intro _; rfl) :
    Ev c F l st (.Compare (.ListComp (.Name x p1) [⟨.Name x px, iter, [.Compare (.Name x p2) [.NotEq] [.List [] p3] p4], 0⟩] scope p5) [.Eq] [.List [] p6] p7) Post := by
  have hrel : relN F.names scope.names = [((".0" : Str), .local), (x, .local)] := by rw [hn]; rfl
  have hcv : compV F.names st.vars scope.names = [Option.none, Option.none] := by rw [hn]; rfl
  refine Ev.cmp (Ev.comp1 (by rw [hn]; rfl) (It.mono h fun xs st' ⟨lv, hxs, hlen, hp⟩ D₀ cl C => ?_) hkind (by rw [hn]; simpa using h0) hs)
  subst hxs
  have hsl : slotOf (relN F.names scope.names) x = some (1, .local) := by rw [hrel]; simp [slotOf, h0]
  rw [hcv]
  refine CpT.sel (R := fun y d => nonE y = true ∧ d = id y) (S := fun y => nonE y = false) (b := 0) (by unfold lvs; rw [List.length_map]; exact hlen) (fun y hy n hn' => ?_) fun ds hsel => ?_
  · obtain ⟨w, hw, rfl⟩ := List.mem_map.mp hy
    have hlk : look (Fc F scope cl C).names [Option.none, some (ws2D w)] x = some (ws2D w) := by
      show look (relN F.names scope.names) _ x = _
      rw [hrel]; simp [look, h0]
    refine TgA.name hsl (by rfl) (IfsT.one (Tst.cmp (Ev.name hlk (Ev.nil ⟨nonE (ws2D w), CmpOk.ne (ok_ws 7 w) (by rfl) ?_, fun hq => ?_, fun hq => ⟨hq, ?_⟩⟩) h1 h2)))
    · rw [nonE_ws]; cases w <;> simp [ws2D]
    · exact Ev.name hlk ⟨⟨hq, rfl⟩, Sub.mk' ⟨⟩ (Nat.le_refl _)⟩ h1 h2
    · exact Sub.mk' ⟨⟩ (Nat.le_refl _)
  · have e := hsel.map
    rw [List.map_id] at e
    subst e
    refine Ev.nil ⟨isIdle lv, CmpOk.eq (by
      have hk := ok_lvs 6 lv
      rw [D.ok_list] at hk ⊢
      exact fun d hd => hk d (List.mem_filter.mp hd).1) (by rfl) ?_, by simpa using hp⟩
    rw [← idle_filter]; simp
theorem Tst.idleCmp {x : Str} {iter : Expr} {px p1 p2 p3 p4 p5 p6 p7 : Pos} {scope : Scope} {PostB : Bool → St → Prop} (hn : scope.names = [((".0" : Str), .local), (x, .local)]) (h0 : ((".0" : Str) == x) = false) (h1 : (x == ("__debug__" : Str)) = false) (h2 : (x == ("__classdict__" : Str)) = false)
    (h : It c F st (.Name x px) iter false fun xs st' => ∃ lv : Lv, xs = lvs lv ∧ lv.length ≤ 1000 ∧ PostB (isIdle lv) st') (hkind : scope.kind = .function := by rfl) (hs : ∀ x, foldedSetIterable iter F.env x = pure x := by intro _; rfl) :
    Tst c F st (.Compare (.ListComp (.Name x p1) [⟨.Name x px, iter, [.Compare (.Name x p2) [.NotEq] [.List [] p3] p4], 0⟩] scope p5) [.Eq] [.List [] p6] p7) PostB := by
  have hrel : relN F.names scope.names = [((".0" : Str), .local), (x, .local)] := by rw [hn]; rfl
  have hcv : compV F.names st.vars scope.names = [Option.none, Option.none] := by rw [hn]; rfl
  refine Tst.cmp (Ev.comp1 (by rw [hn]; rfl) (It.mono h fun xs st' ⟨lv, hxs, hlen, hp⟩ D₀ cl C => ?_) hkind (by rw [hn]; simpa using h0) hs)
  subst hxs
  have hsl : slotOf (relN F.names scope.names) x = some (1, .local) := by rw [hrel]; simp [slotOf, h0]
  rw [hcv]
  refine CpT.sel (R := fun y d => nonE y = true ∧ d = id y) (S := fun y => nonE y = false) (b := 0) (by unfold lvs; rw [List.length_map]; exact hlen) (fun y hy n hn' => ?_) fun ds hsel => ?_
  · obtain ⟨w, hw, rfl⟩ := List.mem_map.mp hy
    have hlk : look (Fc F scope cl C).names [Option.none, some (ws2D w)] x = some (ws2D w) := by
      show look (relN F.names scope.names) _ x = _
      rw [hrel]; simp [look, h0]
    refine TgA.name hsl (by rfl) (IfsT.one (Tst.cmp (Ev.name hlk (Ev.nil ⟨nonE (ws2D w), CmpOk.ne (ok_ws 7 w) (by rfl) ?_, fun hq => ?_, fun hq => ⟨hq, ?_⟩⟩) h1 h2)))
    · rw [nonE_ws]; cases w <;> simp [ws2D]
    · exact Ev.name hlk ⟨⟨hq, rfl⟩, Sub.mk' ⟨⟩ (Nat.le_refl _)⟩ h1 h2
    · exact Sub.mk' ⟨⟩ (Nat.le_refl _)
  · have e := hsel.map
    rw [List.map_id] at e
    subst e
    refine Ev.nil ⟨isIdle lv, CmpOk.eq (by
      have hk := ok_lvs 6 lv
      rw [D.ok_list] at hk ⊢
      exact fun d hd => hk d (List.mem_filter.mp hd).1) (by rfl) ?_, by simpa using hp⟩
    rw [← idle_filter]; simp
end

section
variable {c : Cx} {f fI : Addr}

theorem fn_lawidle (H : FnAt c "_law_is_idle" f (fA 16) (fB 16) (fC 16)) (r : Row) (hl : r.2.2.length ≤ 1000) : Fn c f 1 0 [rowD r] (· = .bool (isIdle r.2.2)) := by
  refine Fn.of H (ps := ["row"]) (fun pm code doc vs hv => ?_) (by rfl) fun pm code doc L B n hn => ?_
  · obtain ⟨a, rfl⟩ := len1 hv rfl
    rfl
  refine Ex.cons (Ex1.ret (Ev.idleCmp (by rfl) (by decide) (by decide) (by decide) (It.list (Ev.item (Ev.name (d := rowD r) (by rfl) (Ev.int ⟨.list (lvs r.2.2), .tup (by decide) (by decide) rfl, _, rfl, r.2.2, rfl, hl, rfl, ?_⟩))))))
  exact Nat.le_refl _

/-- the method -/
structure MethAt (c : Cx) (fD : Addr) : Prop where
  at_ : ∃ o fd, c.H0.get? fD = some o ∧ o.data = .func fd ∧ c.H0.CodeRec fd.code fd.qualname ∧ fd.body = .stmts (sBody (nthS (fB 1) 1)) ∧ fd.closure = [] ∧ fd.globals = mainGlobals ∧ fd.builtins = builtinsNs ∧ fd.scope = sScope (nthS (fB 1) 1) ∧ fd.params = sArgs (nthS (fB 1) 1) ∧ fd.defaults = .none ∧ fd.kwdefaults = .none

theorem fn_begins (H : FnAt c "search_begins" f (fA 2) (fB 2) (fC 2)) (xs ys : List Int) (hlx : xs.length ≤ 1000000) (hly : ys.length ≤ 1000000) :
    Fn c f 1 0 [ws2D xs, ws2D ys] (· = .bool (decide (ys.take xs.length = xs))) := by
  refine Fn.of H (ps := ["part", "whole"]) (fun pm code doc vs hv => ?_) (by rfl) fun pm code doc L B n hn => ?_
  · obtain ⟨a, b, rfl⟩ := len2 hv rfl
    rfl
  refine Ex.cons (Ex1.ret (Ev.cmp (Ev.sliceTo (Ev.name (d := ws2D ys) (by rfl) (Ev.len (by rfl) (Ev.name (d := ws2D xs) (by rfl) ⟨_, rfl, by rw [List.length_map]; exact hlx, ys.map .int, _, rfl, rfl, by lia, by rw [List.length_map]; exact hly, ?_⟩))))))
  refine Ev.name (d := ws2D xs) (by rfl) ⟨decide (ys.take xs.length = xs), CmpOk.eq (by rw [← List.map_take]; exact ok_ints 7 _) (ok_ws 7 _) ?_, rfl, Nat.le_refl _⟩
  rw [decide_eq_true_iff, ← List.map_take]
  constructor
  · intro h; simp only [List.length_map, Int.toNat_natCast, h]; rfl
  · intro h
    have := map_int_inj (D.list.inj h)
    simpa using this
end
end Mine

set_option maxRecDepth 100000
namespace Mine
open PySem PySem.W PyProof.Rows PySem.Calls

section
variable {c : Cx} {f fI fD : Addr}

theorem fn_idle (K : ClsAt c fI fD) (H : MethAt c fD) (r : Row) (hl : r.2.2.length ≤ 1000) : Fn c fD 1 0 [pieceD r] (· = .bool (isIdle r.2.2)) := by
  obtain ⟨o, fd, ho, hd, hcd, h1, h2, h3, h4, h5, h6, h7, h8⟩ := H.at_
  refine Fn.fd (ps := ["self"]) ho hd hcd h1 h2 h3 h4 (fun vs hv => ?_) (by decide) ?_ ?_ ?_ ?_ ?_ (fun L B n hn => ?_) (by rw [h5]; rfl) (by rw [h5]; rfl) (by rw [h5]; rfl)
  · obtain ⟨a, rfl⟩ := len1 hv rfl
    cases fd
    simp only at h5 h6 h7 h8
    subst h5 h6 h7 h8
    rfl
  · rw [h5]; intro x hx; simp at hx; subst hx; exact .inl (by rfl)
  · rw [h5]; decide
  · rw [h5]; decide
  · rw [h5]; intro n x hx; exact absurd hx (by
      intro hx
      have := PySem.mem_of_lookup hx
      simp [sScope, nthS, fB, sBody, fS, PySem.Challenge.pw_on0356_01] at this)
  · rw [h5]; intro p hp
    have hp' : p ∈ [(("self" : Str), NameKind.local)] := hp
    simp at hp'; subst hp'; decide
  have hs : fd.scope.names = [(("self" : Str), NameKind.local)] := by rw [h5]; rfl
  have hiv : initV fd.scope.names ["self"] [pieceD r] = [some (pieceD r)] := by rw [hs]; rfl
  rw [hiv]
  refine Ex.cons (Ex1.ret (Ev.idleCmp (by rfl) (by decide) (by decide) (by decide) (It.list (Ev.field K (Ev.name (d := pieceD r) (by show look fd.scope.names _ _ = _; rw [hs]; rfl) ⟨_, .levels, _, rfl, r.2.2, rfl, hl, rfl, ?_⟩)))))
  exact Nat.le_refl _
end
end Mine

set_option maxRecDepth 100000
namespace Mine
open PySem PySem.W PyProof.Rows PySem.Calls

noncomputable def optP : Option (Nat × Nat) → D
  | none => .none
  | some (a, b) => .tup [.int (a : Nat), .int (b : Nat)]
noncomputable def addL (a b : Lv) : Lv := List.zipWith (· ++ ·) a b
noncomputable def begL (a w : Lv) : List Bool := List.zipWith (fun x y => decide (y.take x.length = x)) a w
noncomputable def scan (W : Lv) : List Row → Lv → Nat → Option Nat
  | [], _, _ => none
  | r :: rs, acc, k => if addL acc r.2.2 = W then some (k + 1) else if (begL (addL acc r.2.2) W).all id then scan W rs (addL acc r.2.2) (k + 1) else none
noncomputable def stretchF (rows : List Row) (s : Nat) (W : Lv) : Option (Nat × Nat) :=
  if isIdle ((rows[s]?.map (·.2.2)).getD []) then none else (scan W (rows.drop s) (List.replicate W.length []) s).map fun k => (s, k)

noncomputable def mixL (j : Nat) (a b : Lv) : Lv := addL (a.take j) b ++ a.drop j
theorem mixL_zero (a b : Lv) : mixL 0 a b = a := by simp [mixL, addL]
theorem mixL_full {a b : Lv} (h : a.length = b.length) : mixL b.length a b = addL a b := by
  unfold mixL
  rw [← h, List.take_length, List.drop_length, List.append_nil]
theorem addL_length (a b : Lv) (h : a.length = b.length) : (addL a b).length = a.length := by simp [addL, h]
theorem mixL_length (j : Nat) (a b : Lv) (h : a.length = b.length) : (mixL j a b).length = a.length := by
  simp [mixL, addL]; lia
theorem mixL_get {j : Nat} {a b : Lv} (h : a.length = b.length) (hj : j < a.length) : (mixL j a b)[j]? = a[j]? := by
  unfold mixL
  rw [List.getElem?_append_right (by simp [addL]; lia)]
  have : (addL (a.take j) b).length = j := by simp [addL]; lia
  rw [this, List.getElem?_drop]; simp
theorem mixL_succ {j : Nat} {a b : Lv} (h : a.length = b.length) (hj : j < a.length) : (mixL j a b).set j ((a[j]'hj) ++ (b[j]'(h ▸ hj))) = mixL (j + 1) a b := by
  have hb : j < b.length := h ▸ hj
  apply List.ext_getElem?
  intro i
  have L1 : (addL (a.take j) b).length = j := by simp [addL]; lia
  have L2 : (addL (a.take (j + 1)) b).length = j + 1 := by simp [addL]; lia
  unfold mixL
  rw [List.getElem?_set]
  by_cases q : j = i
  · subst q
    rw [if_pos rfl, if_pos (by simp [addL]; lia), List.getElem?_append_left (by lia)]
    simp [addL, List.getElem?_zipWith, hj, hb]
  · rw [if_neg q]
    by_cases q2 : i < j
    · rw [List.getElem?_append_left (by lia), List.getElem?_append_left (by lia)]
      simp only [addL, List.getElem?_zipWith, List.getElem?_take]
      rw [if_pos q2, if_pos (by lia)]
    · rw [List.getElem?_append_right (by lia), List.getElem?_append_right (by lia), L1, L2, List.getElem?_drop, List.getElem?_drop]
      congr 1; lia

theorem Sel.eq {R : D → D → Prop} : ∀ {xs ds es : List D}, Sel R (fun _ => False) xs ds → es.length = xs.length → (∀ (k : Nat) x d, xs[k]? = some x → R x d → es[k]? = some d) → ds = es
  | [], _, es, .nil, hl, _ => by cases es with | nil => rfl | cons => simp at hl
  | x :: xs, _, es, .take (d := d) (ds := ds) a h, hl, he => by
    cases es with
    | nil => simp at hl
    | cons e es =>
      have h0 := he 0 x d (by simp) a
      simp at h0
      rw [h0, Sel.eq h (es := es) (by simpa using hl) fun k x d hx hr => by simpa using he (k + 1) x d (by simpa using hx) hr]
  | x :: xs, _, es, .skip a h, hl, he => a.elim

section
variable {c : Cx} {f fI fD : Addr}
theorem ret_none_D {T : D → Prop} {d : D} : T d → T d := id

structure RowsIn (rows : List Row) (n : Nat) : Prop where
  len : rows.length ≤ 8
  lv : ∀ r ∈ rows, r.2.2.length = n ∧ ∀ w ∈ r.2.2, w.length ≤ 2
  n : n ≤ 2

set_option maxHeartbeats 1000000 in
theorem fn_stretch (K : ClsAt c fI fD) (HM : MethAt c fD) {f2 : Addr} (H2 : FnAt c "search_begins" f2 (fA 2) (fB 2) (fC 2)) (H : FnAt c "search_stretch" f (fA 3) (fB 3) (fC 3)) (rows : List Row) (W : Lv) (R : RowsIn rows W.length) (hW : ∀ w ∈ W, w.length ≤ 1000) (s : Nat) (hs : s < rows.length) :
    Fn c f 2 0 [.list (rows.map pieceD), .int (s : Nat), .list (lvs W)] (· = optP (stretchF rows s W)) := by
  refine Fn.of H (ps := ["pieces", "start", "wanted"]) (fun pm code doc vs hv => ?_) (by rfl) fun pm code doc L B n hn => ?_
  · obtain ⟨a, b, d, rfl⟩ := len3 hv rfl
    rfl
  have hlen := R.len
  have hn2 := R.n
  have hget : rows[s]? = some rows[s] := List.getElem?_eq_getElem hs
  have hstr : stretchF rows s W = if isIdle rows[s].2.2 then none else (scan W (rows.drop s) (List.replicate W.length []) s).map fun k => (s, k) := by unfold stretchF; rw [hget]; rfl
  obtain ⟨o, fd, ho, hd, _⟩ := HM.at_
  have hlv : ∀ r ∈ rows, r.2.2.length ≤ 1000 := fun r hr => by have := (R.lv r hr).1; lia
  refine Ex.cons (Ex1.ite (Tst.val (Ev.idle K ho hd (Ev.item (Ev.name (d := .list (rows.map pieceD)) (by rfl) (Ev.name (d := .int (s : Nat)) (by rfl) ⟨pieceD rows[s], .list (by lia) (by lia) (by simp [hget]), ?_⟩))))))
  refine ⟨1, 0, _, fn_idle K HM rows[s] (hlv _ (List.getElem_mem hs)), ⟨_, _, _, rfl⟩, Nat.le_refl _, hn, fun r hr => ⟨_, hr, fun hq => ?_, fun hq => Ex.nil ?_⟩⟩
  · refine Ex.cons (Ex1.ret (Ev.none ⟨?_, Nat.le_refl _⟩))
    rw [hstr, if_pos hq]; rfl
  refine Ex.cons (Ex1.ownComp1 (i := 3) (k := .local) (by rfl) (by rfl) (by rfl) (It.list (Ev.name (d := .list (lvs W)) (by rfl) ⟨_, rfl, fun D₀ cl C => ?_⟩)))
  refine CpT.sel (R := fun _ d => d = .list []) (S := fun _ => False) (b := 0) (by simp [lvs]; lia) (fun y hy n' hn' => TgA.name (i := 1) (k := .local) (by rfl) (by rfl) (IfsT.nil ⟨fun _ => Ev.nil ⟨rfl, Sub.mk' ⟨⟩ (Nat.le_refl _)⟩, fun q => by cases q⟩)) fun ds hsel => ?_
  have hds : ds = lvs (List.replicate W.length []) := by
    have : ∀ xs ds, Sel (fun _ d => d = D.list []) (fun _ => False) xs ds → ds = List.replicate xs.length (.list []) := by
      intro xs ds h
      induction h with
      | nil => rfl
      | take a _ ih => rw [a, ih]; rfl
      | skip a _ ih => exact a.elim
    rw [this _ _ hsel]; simp [lvs, ws2D]
  subst hds
  refine Ex.cons (Ex1.for (It.range2 (by rfl) (Ev.name (d := .int (s : Nat)) (by rfl) (Ev.len (by rfl) (Ev.name (d := .list (rows.map pieceD)) (by rfl) ⟨_, rfl, by rw [List.length_map]; lia, _, _, rfl, rfl, by lia, by lia, by rw [List.length_map]; lia, by lia, ?_⟩)))))
  have hcnt : ((((rows.map pieceD).length : Nat) : Int) - (s : Nat)).toNat = rows.length - s := by rw [List.length_map]; lia
  rw [hcnt]
  refine Lp.inv (fun i st => ∃ (acc : Lv) (pl : Bool), st = { vars := [some (.list (rows.map pieceD)), some (.int (s : Nat)), some (.list (lvs W)), Option.none, Option.none, Option.none, Option.none, Option.none, Option.none, Option.none, Option.none], own := some (3, .list (lvs acc)), plain := pl, tb := n } ∧
    acc.length = W.length ∧ (∀ w ∈ acc, w.length ≤ 2 * i) ∧ stretchF rows s W = (scan W (rows.drop (s + i)) acc (s + i)).map fun k => (s, k)) ?_ ⟨List.replicate W.length [], true, rfl, by simp, by simp, by rw [hstr, if_neg (by simp [hq])]; rfl⟩ ?_
  · rintro i x hx st ⟨acc, pl, rfl, hal, haw, hsc⟩
    have hx' := intsD_get hx
    subst hx'
    have hi : i < rows.length - s := by have := (List.getElem?_eq_some_iff.mp hx).1; rwa [intsD_length] at this
    have hsi : s + i < rows.length := by lia
    have hgi : rows[s + i]? = some rows[s + i] := List.getElem?_eq_getElem hsi
    obtain ⟨hrl, hrw⟩ := R.lv _ (List.getElem_mem hsi)
    have hadd := addL_length acc rows[s + i].2.2 (by rw [hal, hrl])
    have hdrop : rows.drop (s + i) = rows[s + i] :: rows.drop (s + i + 1) := List.drop_eq_getElem_cons hsi
    rw [hdrop, scan] at hsc
    refine ExA.name (i := 4) (k := .local) (by rfl) (by rfl) (by rfl) ?_
    refine Ex.cons (Ex1.for (It.enum (by rfl) (Ev.field K (Ev.item (Ev.name (d := .list (rows.map pieceD)) (by rfl) (Ev.name (d := .int ((s : Nat) + (i : Nat))) (by rfl) ⟨pieceD rows[s + i], .list (by lia) (by lia) ?_, _, .levels, _, rfl, ?_⟩))))))
    · have : ((s : Int) + (i : Int)).toNat = s + i := by lia
      rw [this]; simp [hgi]
    refine Lp.inv (fun j st => ∃ pl : Bool, st = { vars := [some (.list (rows.map pieceD)), some (.int (s : Nat)), some (.list (lvs W)), Option.none, some (.int ((s : Nat) + (i : Nat))), Option.none, Option.none, Option.none, Option.none, Option.none, Option.none], own := some (3, .list (lvs (mixL j acc rows[s + i].2.2))), plain := pl, tb := n }) ?_ ⟨pl, by rw [mixL_zero]; rfl⟩ ?_
    · rintro j x hx st ⟨pl, rfl⟩
      obtain ⟨y, hy, rfl⟩ := enums_get hx
      have hj : j < rows[s + i].2.2.length := by have := (List.getElem?_eq_some_iff.mp hx).1; rw [enums_length] at this; simpa [lvs] using this
      have hja : j < acc.length := by rw [hal, ← hrl]; exact hj
      have hy' : y = ws2D rows[s + i].2.2[j] := by
        unfold lvs at hy
        rw [List.getElem?_map, List.getElem?_eq_getElem hj] at hy
        simpa using hy.symm
      subst hy'
      refine ExA.tup2 (i := 5) (k := .local) (j := 6) (k' := .local) (by rfl) (by rfl) (by rfl) (by rfl) (by rfl) (by rfl) ?_
      refine Ex.cons (Ex1.ownSet (i := 3) (k := .local) (by rfl) (by rfl) (by simp [lvs, mixL_length _ _ _ (hal.trans hrl.symm)]; lia) (Ev.catFlat (Ev.item (Ev.oname (by rfl) (by rfl) (Ev.name (d := .int (j : Nat)) (by rfl) ⟨ws2D acc[j], .list (by lia) (by lia) ?_, ?_⟩)))))
      · unfold lvs
        rw [List.getElem?_map, Int.toNat_natCast, mixL_get (hal.trans hrl.symm) hja, List.getElem?_eq_getElem hja]; rfl
      refine Ev.name (d := ws2D rows[s + i].2.2[j]) (by rfl) ⟨_, _, rfl, rfl, ?_, ?_, ?_⟩
      · have h1 := haw _ (List.getElem_mem hja)
        have h2 := hrw _ (List.getElem_mem hj)
        simp only [List.length_map]; lia
      · intro d hd
        rw [← List.map_append] at hd
        obtain ⟨_, _, rfl⟩ := List.mem_map.mp hd; rfl
      refine Ev.name (d := .int (j : Nat)) (by rfl) ⟨_, rfl, by lia, by simp [lvs, mixL_length _ _ _ (hal.trans hrl.symm)]; lia, Ex.nil ⟨_, Sub.mk' (v := [some (.list (rows.map pieceD)), some (.int (s : Nat)), some (.list (lvs W)), Option.none, some (.int ((s : Nat) + (i : Nat))), Option.none, Option.none, Option.none, Option.none, Option.none, Option.none]) ⟨rfl, rfl, rfl, rfl, ⟨⟩⟩ (Nat.le_refl _), false, ?_⟩⟩
      rw [← mixL_succ (hal.trans hrl.symm) hja]
      simp [lvs, ws2D]
    · rintro st st' ⟨pl, rfl⟩ hsub
      have hmix : mixL (enums (lvs rows[s + i].2.2)).length acc rows[s + i].2.2 = addL acc rows[s + i].2.2 := by
        rw [enums_length]; simp only [lvs, List.length_map]; exact mixL_full (hal.trans hrl.symm)
      rw [hmix] at hsub
      refine ExS.sub ?_ hsub
      have haw' : ∀ w ∈ addL acc rows[s + i].2.2, w.length ≤ 2 * (i + 1) := by
        intro w hw
        obtain ⟨k, hk, rfl⟩ := List.getElem_of_mem hw
        have hk' : k < acc.length := by rw [hadd] at hk; exact hk
        have h1 := haw _ (List.getElem_mem hk')
        have hkr : k < rows[s + i].2.2.length := by rw [hrl, ← hal]; exact hk'
        have h2 := hrw _ (List.getElem_mem hkr)
        simp only [addL, List.getElem_zipWith, List.length_append]; lia
      refine Ex.cons (Ex1.ite (Tst.cmp (Ev.oname (by rfl) (by rfl) (Ev.name (d := .list (lvs W)) (by rfl) ⟨decide (addL acc rows[s + i].2.2 = W), CmpOk.eq (ok_lvs 6 _) (ok_lvs 6 _) ?_, fun hq => ?_, fun hq => Ex.nil ?_⟩))))
      · rw [decide_eq_true_iff]
        exact ⟨fun h => by rw [h], fun h => lvs_inj (D.list.inj h)⟩
      · have hq' : addL acc rows[s + i].2.2 = W := by simpa using hq
        rw [if_pos hq'] at hsc
        refine Ex.cons (Ex1.ret (Ev.tup2 (Ev.name (d := .int (s : Nat)) (by rfl) (Ev.add (Ev.name (d := .int ((s : Nat) + (i : Nat))) (by rfl) (Ev.int ⟨_, _, rfl, rfl, ?_, Nat.le_refl _⟩))))))
        rw [hsc]; simp [optP]
      · have hq' : ¬ addL acc rows[s + i].2.2 = W := by simpa using hq
        rw [if_neg hq'] at hsc
        refine Ex.cons (Ex1.ite (Tst.not (Tst.val (Ev.allB (by rfl) (Ev.comp1 (by rfl) (It.enum (by rfl) (Ev.oname (by rfl) (by rfl) ⟨_, rfl, fun D₀ cl C => ?_⟩)))))))
        refine CpT.sel (R := fun y d => ∃ (k : Nat) (x w : List Int), (addL acc rows[s + i].2.2)[k]? = some x ∧ W[k]? = some w ∧ y = .tup [.int (k : Nat), ws2D x] ∧ d = .bool (decide (w.take x.length = x))) (S := fun _ => False) (b := 0) (by rw [enums_length]; simp [lvs]; lia) (fun y hy n' hn' => ?_) fun ds hsel => ?_
        · have hbn : n' + 0 ≤ maxT := Nat.le_trans (by simpa using hn') hn
          obtain ⟨k, hk⟩ := List.getElem?_of_mem hy
          obtain ⟨y', hy', rfl⟩ := enums_get hk
          have hkl : k < (addL acc rows[s + i].2.2).length := by
            have := (List.getElem?_eq_some_iff.mp hy').1
            simpa [lvs] using this
          have hkW : k < W.length := by rw [hadd, hal] at hkl; exact hkl
          have hyy : y' = ws2D (addL acc rows[s + i].2.2)[k] := by
            unfold lvs at hy'
            rw [List.getElem?_map, List.getElem?_eq_getElem hkl] at hy'
            simpa using hy'.symm
          subst hyy
          have h1 := haw' _ (List.getElem_mem hkl)
          have h2 := hW _ (List.getElem_mem hkW)
          refine TgA.tup2 (i := 1) (k := .local) (j := 2) (k' := .local) (by rfl) (by rfl) (by rfl) (by rfl) (IfsT.nil ⟨fun _ => ?_, fun q => by cases q⟩)
          refine Ev.call2 H2 (by rfl) (Ev.name (d := ws2D (addL acc rows[s + i].2.2)[k]) (by rfl) (Ev.item (Ev.name (d := .list (lvs W)) (by rfl) (Ev.name (d := .int (k : Nat)) (by rfl) ⟨ws2D W[k], .list (by lia) (by lia) ?_, 1, 0, _, fn_begins H2 _ _ (by lia) (by lia), Nat.le_refl _, hbn, fun d hd => ⟨⟨k, _, _, List.getElem?_eq_getElem hkl, List.getElem?_eq_getElem hkW, rfl, hd⟩, ?_⟩⟩))))
          · unfold lvs
            rw [Int.toNat_natCast, List.getElem?_map, List.getElem?_eq_getElem hkW]; rfl
          · exact Sub.mk' ⟨rfl, ⟨⟩⟩ (Nat.le_refl _)
        · have hdd : ds = (begL (addL acc rows[s + i].2.2) W).map .bool := by
            refine hsel.eq (by simp [begL, lvs, enums, hadd, hal]) fun k x d hx ⟨k', a, w, ha, hw, hy, hd⟩ => ?_
            obtain ⟨y', hy', rfl⟩ := enums_get hx
            simp only [D.tup.injEq, List.cons.injEq, D.int.injEq, and_true] at hy
            have hk : k = k' := by have := hy.1; lia
            subst hk
            subst hd
            rw [List.getElem?_map, begL, List.getElem?_zipWith, ha, hw]; rfl
          subst hdd
          refine ⟨_, rfl, _, rfl, fun hq2 => ?_, fun hq2 => Ex.nil (Ex.nil ⟨_, Sub.mk' (v := [some (.list (rows.map pieceD)), some (.int (s : Nat)), some (.list (lvs W)), Option.none, Option.none, Option.none, Option.none, Option.none, Option.none, Option.none, Option.none]) ⟨rfl, rfl, rfl, ⟨⟩⟩ (by simp), addL acc rows[s + i].2.2, pl, rfl, hadd.trans hal, haw', ?_⟩)⟩
          · rw [if_neg (by simpa using hq2)] at hsc
            exact Ex.cons (Ex1.ret (Ev.none ⟨by rw [hsc]; rfl, by simp⟩))
          · rw [if_pos (by simpa using hq2)] at hsc
            exact hsc
  · rintro st st' ⟨acc, pl, rfl, hal, haw, hsc⟩ hsub
    refine ExS.sub (Ex.cons (Ex1.ret (Ev.none ⟨?_, Nat.le_refl _⟩))) hsub
    rw [intsD_length, List.drop_of_length_le (by lia)] at hsc
    rw [hsc]; rfl
end
end Mine

set_option maxRecDepth 100000
namespace Mine
open PySem PySem.W PyProof.Rows PySem.Calls

noncomputable def idleAt (rows : List Row) (i : Nat) : Bool := isIdle ((rows[i]?.map (·.2.2)).getD [])
noncomputable def firstAt (rows : List Row) (i : Nat) : Int := (rows[i]?.map (·.1)).getD 0
noncomputable def behindAt (rows : List Row) (i : Nat) : Int := (rows[i]?.map (·.2.1)).getD 0
theorem idleAt_eq {rows : List Row} {i : Nat} (h : i < rows.length) : idleAt rows i = isIdle rows[i].2.2 := by unfold idleAt; rw [List.getElem?_eq_getElem h]; rfl
theorem firstAt_eq {rows : List Row} {i : Nat} (h : i < rows.length) : firstAt rows i = rows[i].1 := by unfold firstAt; rw [List.getElem?_eq_getElem h]; rfl
theorem behindAt_eq {rows : List Row} {i : Nat} (h : i < rows.length) : behindAt rows i = rows[i].2.1 := by unfold behindAt; rw [List.getElem?_eq_getElem h]; rfl

noncomputable def left (rows : List Row) : Nat → Nat
  | 0 => 0
  | a + 1 => if idleAt rows a then left rows a else a + 1
noncomputable def right (rows : List Row) : Nat → Nat → Nat
  | 0, b => b
  | k + 1, b => if idleAt rows b then right rows k (b + 1) else b
noncomputable def wholeL (p : Int → Bool) (rows : List Row) : Nat → Option Nat
  | 0 => if p (firstAt rows 0) then some 0 else none
  | a + 1 => if p (firstAt rows (a + 1)) then some (a + 1) else if idleAt rows a then wholeL p rows a else none
noncomputable def wholeR (p : Int → Bool) (rows : List Row) : Nat → Nat → Option Nat
  | 0, b => if p (behindAt rows (b - 1)) then some b else none
  | k + 1, b => if p (behindAt rows (b - 1)) then some b else if idleAt rows b then wholeR p rows k (b + 1) else none
noncomputable def wholeF (p : Int → Bool) (rows : List Row) (a b : Nat) : Option (Nat × Nat) :=
  (wholeL p rows a).bind fun x => (wholeR p rows (rows.length - b) b).map fun y => (x, y)
noncomputable def narL (p : Int → Bool) (rows : List Row) : Nat → Nat → Option Nat
  | 0, a => if p (firstAt rows a) then some a else none
  | k + 1, a => if p (firstAt rows a) then some a else if idleAt rows a then narL p rows k (a + 1) else none
noncomputable def narR (p : Int → Bool) (rows : List Row) : Nat → Option Nat
  | 0 => none
  | b + 1 => if p (behindAt rows b) then some (b + 1) else if idleAt rows b then narR p rows b else none
noncomputable def narF (p : Int → Bool) (rows : List Row) (a b : Nat) : Option (Nat × Nat) :=
  (narL p rows (rows.length - a) a).bind fun x => (narR p rows b).map fun y => (x, y)
noncomputable def chosenF (p : Option (Int → Bool)) (rows : List Row) (wide : Bool) (a b : Nat) : Option (Nat × Nat) :=
  if wide then (match p with | none => some (left rows a, right rows (rows.length - b) b) | some p => narF p rows (left rows a) (right rows (rows.length - b) b))
  else (match p with | none => some (a, b) | some p => wholeF p rows a b)
noncomputable def endD : Option (Int → Bool) → D
  | none => .none
  | some p => .keys p

theorem left_pos (rows : List Row) {k : Nat} (h : 0 < k) : left rows k = if idleAt rows (k - 1) then left rows (k - 1) else k := by
  obtain ⟨j, rfl⟩ : ∃ j, k = j + 1 := ⟨k - 1, by lia⟩
  rw [left]; rfl
theorem left_le (rows : List Row) : ∀ a, left rows a ≤ a
  | 0 => Nat.le_refl _
  | a + 1 => by unfold left; split; exact Nat.le_succ_of_le (left_le rows a); exact Nat.le_refl _
theorem right_ge (rows : List Row) : ∀ k b, b ≤ right rows k b
  | 0, b => Nat.le_refl _
  | k + 1, b => by unfold right; split; exact Nat.le_of_succ_le (right_ge rows k (b + 1)); exact Nat.le_refl _
theorem right_le (rows : List Row) : ∀ k b, right rows k b ≤ b + k
  | 0, b => Nat.le_refl _
  | k + 1, b => by unfold right; split; have := right_le rows k (b + 1); lia; lia

section
variable {c : Cx} {f fI fD : Addr}

theorem pieceItem {rows : List Row} {i : Nat} {j : Int} (h : i < rows.length) (hj : j = (i : Nat)) (hl : rows.length ≤ 8) : ItemOk (.list (rows.map pieceD)) (.int j) (pieceD rows[i]) := by
  subst hj
  exact .list (by lia) (by lia) (by simp [List.getElem?_eq_getElem h])
theorem rowItem {rows : List Row} {i : Nat} {j : Int} (h : i < rows.length) (hj : j = (i : Nat)) (hl : rows.length ≤ 8) : ItemOk (.list (rows.map rowD)) (.int j) (rowD rows[i]) := by
  subst hj
  exact .list (by lia) (by lia) (by simp [List.getElem?_eq_getElem h])

set_option maxHeartbeats 1000000 in
theorem fn_widest (K : ClsAt c fI fD) (HM : MethAt c fD) (H : FnAt c "search_widest" f (fA 4) (fB 4) (fC 4)) (rows : List Row) {n0 : Nat} (R : RowsIn rows n0) (a b : Nat) (ha : a ≤ rows.length) (hb : b ≤ rows.length) :
    Fn c f 2 0 [.list (rows.map pieceD), optP (some (a, b))] (· = optP (some (left rows a, right rows (rows.length - b) b))) := by
  refine Fn.of H (ps := ["pieces", "stretch"]) (fun pm code doc vs hv => ?_) (by rfl) fun pm code doc L B n hn => ?_
  · obtain ⟨a, b, rfl⟩ := len2 hv rfl
    rfl
  have hlen := R.len
  have hn2 := R.n
  obtain ⟨o, fd, ho, hd, _⟩ := HM.at_
  have hlv : ∀ r ∈ rows, r.2.2.length ≤ 1000 := fun r hr => by have := (R.lv r hr).1; lia
  refine Ex.cons (Ex1.assign2 (i := 2) (k := .local) (j := 3) (k' := .local) (by rfl) (by rfl) (by rfl) (by rfl) (by rfl) (by rfl) (Ev.name (d := optP (some (a, b))) (by rfl) ⟨_, _, rfl, ?_⟩))
  refine Ex.cons (Ex.mono (N := fun st => st = { vars := [some (.list (rows.map pieceD)), some (optP (some (a, b))), some (.int (left rows a : Nat)), some (.int (b : Nat)), Option.none], tb := n }) (Ex1.whileR (fun k st => ∃ a', k = a' ∧ st = { vars := [some (.list (rows.map pieceD)), some (optP (some (a, b))), some (.int (a' : Nat)), some (.int (b : Nat)), Option.none], tb := n } ∧ a' ≤ a ∧ left rows a' = left rows a) a ⟨a, rfl, rfl, Nat.le_refl _, rfl⟩ ?_) (fun st hst => ?_) fun _ _ h => h)
  · rintro k st ⟨a', rfl, rfl, hle, hl⟩
    refine Tst.and (Tst.cmp (Ev.name (d := .int (k : Nat)) (by rfl) (Ev.int ⟨decide (0 < k), CmpOk.int (by simp [cmpI]), fun hq => ?_, fun hq => ⟨nofun, fun _ => ?_⟩⟩)))
    · have hpos : 0 < k := by simpa using hq
      have hk : k - 1 < rows.length := by lia
      refine Tst.val (Ev.idle K ho hd (Ev.item (Ev.name (d := .list (rows.map pieceD)) (by rfl) (Ev.sub (Ev.name (d := .int (k : Nat)) (by rfl) (Ev.int ⟨_, _, rfl, rfl, pieceD rows[k - 1], pieceItem hk (by lia) hlen, ?_⟩))))))
      refine ⟨1, 0, _, fn_idle K HM _ (hlv _ (List.getElem_mem hk)), ⟨_, _, _, rfl⟩, Nat.le_refl _, hn, fun r hr => ⟨_, hr, fun hq => ?_, fun hq => ?_⟩⟩
      · refine Ex.cons (Ex1.isub (a := (k : Nat)) (i := 2) (k := .local) (by rfl) (by rfl) (by rfl) (by rfl) (Ev.int ⟨_, rfl, Ex.nil ⟨k - 1, by lia, k - 1, rfl, ?_, by lia, ?_⟩⟩))
        · have : ((k : Nat) : Int) - 1 = ((k - 1 : Nat) : Int) := by lia
          rw [this]; rfl
        · rw [← hl, left_pos rows hpos, if_pos (by rw [idleAt_eq hk]; exact hq)]
      · have hfin : left rows a = k := by
          rw [← hl, left_pos rows hpos, if_neg (by rw [idleAt_eq hk]; simpa using hq)]
        rw [hfin]; rfl
    · have h0 : k = 0 := by simpa using hq
      subst h0
      rw [← hl, left]
  subst hst
  refine Ex.cons (Ex.mono (N := fun st => st = { vars := [some (.list (rows.map pieceD)), some (optP (some (a, b))), some (.int (left rows a : Nat)), some (.int (right rows (rows.length - b) b : Nat)), Option.none], tb := n }) (Ex1.whileR (fun k st => ∃ b', k + b' = rows.length ∧ st = { vars := [some (.list (rows.map pieceD)), some (optP (some (a, b))), some (.int (left rows a : Nat)), some (.int (b' : Nat)), Option.none], tb := n } ∧ right rows k b' = right rows (rows.length - b) b) (rows.length - b) ⟨b, by lia, rfl, rfl⟩ ?_) (fun st hst => ?_) fun _ _ h => h)
  · rintro k st ⟨b', hk, rfl, hl⟩
    refine Tst.and (Tst.cmp (Ev.name (d := .int (b' : Nat)) (by rfl) (Ev.len (by rfl) (Ev.name (d := .list (rows.map pieceD)) (by rfl) ⟨_, rfl, by rw [List.length_map]; lia, decide (b' < rows.length), CmpOk.int (by simp [cmpI]), fun hq => ?_, fun hq => ⟨nofun, fun _ => ?_⟩⟩))))
    · have hb' : b' < rows.length := by simpa using hq
      refine Tst.val (Ev.idle K ho hd (Ev.item (Ev.name (d := .list (rows.map pieceD)) (by rfl) (Ev.name (d := .int (b' : Nat)) (by rfl) ⟨pieceD rows[b'], pieceItem hb' rfl hlen, ?_⟩))))
      obtain ⟨j, rfl⟩ : ∃ j, k = j + 1 := ⟨k - 1, by lia⟩
      rw [right] at hl
      refine ⟨1, 0, _, fn_idle K HM _ (hlv _ (List.getElem_mem hb')), ⟨_, _, _, rfl⟩, Nat.le_refl _, hn, fun r hr => ⟨_, hr, fun hq => ?_, fun hq => ?_⟩⟩
      · rw [if_pos (by rw [idleAt_eq hb']; exact hq)] at hl
        exact Ex.cons (Ex1.iadd (a := (b' : Nat)) (i := 3) (k := .local) (by rfl) (by rfl) (by rfl) (by rfl) (Ev.int ⟨_, rfl, Ex.nil ⟨j, by lia, b' + 1, by lia, rfl, hl⟩⟩))
      · rw [if_neg (by rw [idleAt_eq hb']; simpa using hq)] at hl
        rw [← hl]; rfl
    · have hb' : rows.length ≤ b' := by simpa using hq
      have h0 : k = 0 := by lia
      subst h0
      rw [right] at hl
      rw [← hl]
  subst hst
  exact Ex.cons (Ex1.ret (Ev.tup2 (Ev.name (by rfl) (Ev.name (by rfl) ⟨rfl, Nat.le_refl _⟩))))
end
end Mine

set_option maxRecDepth 100000
namespace Mine
open PySem PySem.W PyProof.Rows PySem.Calls

section
variable {c : Cx} {f fI fD : Addr}

theorem wholeL_pos (p : Int → Bool) (rows : List Row) {k : Nat} (h : 0 < k) : wholeL p rows k = if p (firstAt rows k) then some k else if idleAt rows (k - 1) then wholeL p rows (k - 1) else none := by
  obtain ⟨j, rfl⟩ : ∃ j, k = j + 1 := ⟨k - 1, by lia⟩
  rw [wholeL]; rfl
theorem narR_pos (p : Int → Bool) (rows : List Row) {k : Nat} (h : 0 < k) : narR p rows k = if p (behindAt rows (k - 1)) then some k else if idleAt rows (k - 1) then narR p rows (k - 1) else none := by
  obtain ⟨j, rfl⟩ : ∃ j, k = j + 1 := ⟨k - 1, by lia⟩
  rw [narR]; rfl
theorem wholeL_if (p : Int → Bool) (rows : List Row) (k : Nat) (h : p (firstAt rows k) = true) : wholeL p rows k = some k := by
  cases k <;> rw [wholeL, if_pos h]

set_option maxHeartbeats 1000000 in
theorem fn_lawwide {f16 : Addr} (H16 : FnAt c "_law_is_idle" f16 (fA 16) (fB 16) (fC 16)) (H : FnAt c "_law_wide" f (fA 18) (fB 18) (fC 18)) (rows : List Row) {n0 : Nat} (R : RowsIn rows n0) (a b : Nat) (ha : a ≤ rows.length) (hb : b ≤ rows.length) :
    Fn c f 2 0 [.list (rows.map rowD), .int (a : Nat), .int (b : Nat)] (· = optP (some (left rows a, right rows (rows.length - b) b))) := by
  refine Fn.of H (ps := ["rows", "low", "high"]) (fun pm code doc vs hv => ?_) (by rfl) fun pm code doc L B n hn => ?_
  · obtain ⟨a, b, d, rfl⟩ := len3 hv rfl
    rfl
  have hlen := R.len
  have hn2 := R.n
  have hlv : ∀ r ∈ rows, r.2.2.length ≤ 1000 := fun r hr => by have := (R.lv r hr).1; lia
  refine Ex.cons (Ex.mono (N := fun st => st = { vars := [some (.list (rows.map rowD)), some (.int (left rows a : Nat)), some (.int (b : Nat)), Option.none, Option.none], tb := n }) (Ex1.whileR (fun k st => ∃ a', k = a' ∧ st = { vars := [some (.list (rows.map rowD)), some (.int (a' : Nat)), some (.int (b : Nat)), Option.none, Option.none], tb := n } ∧ a' ≤ a ∧ left rows a' = left rows a) a ⟨a, rfl, rfl, Nat.le_refl _, rfl⟩ ?_) (fun st hst => ?_) fun _ _ h => h)
  · rintro k st ⟨a', rfl, rfl, hle, hl⟩
    refine Tst.and (Tst.cmp (Ev.name (d := .int (k : Nat)) (by rfl) (Ev.int ⟨decide (0 < k), CmpOk.int (by simp [cmpI]), fun hq => ?_, fun hq => ⟨nofun, fun _ => ?_⟩⟩)))
    · have hpos : 0 < k := by simpa using hq
      have hk : k - 1 < rows.length := by lia
      refine Tst.val (Ev.call1 H16 (by rfl) (Ev.item (Ev.name (d := .list (rows.map rowD)) (by rfl) (Ev.sub (Ev.name (d := .int (k : Nat)) (by rfl) (Ev.int ⟨_, _, rfl, rfl, rowD rows[k - 1], rowItem hk (by lia) hlen, ?_⟩))))))
      refine ⟨1, 0, _, fn_lawidle H16 _ (hlv _ (List.getElem_mem hk)), Nat.le_refl _, hn, fun r hr => ⟨_, hr, fun hq => ?_, fun hq => ?_⟩⟩
      · refine Ex.cons (Ex1.assign (i := 1) (k := .local) (by rfl) (by rfl) (by rfl) (Ev.sub (Ev.name (d := .int (k : Nat)) (by rfl) (Ev.int ⟨_, _, rfl, rfl, Ex.nil ⟨k - 1, by lia, k - 1, rfl, ?_, by lia, ?_⟩⟩))))
        · have : ((k : Nat) : Int) - 1 = ((k - 1 : Nat) : Int) := by lia
          rw [this]; rfl
        · rw [← hl, left_pos rows hpos, if_pos (by rw [idleAt_eq hk]; exact hq)]
      · have hfin : left rows a = k := by
          rw [← hl, left_pos rows hpos, if_neg (by rw [idleAt_eq hk]; simpa using hq)]
        rw [hfin]; rfl
    · have h0 : k = 0 := by simpa using hq
      subst h0
      rw [← hl, left]
  subst hst
  refine Ex.cons (Ex.mono (N := fun st => st = { vars := [some (.list (rows.map rowD)), some (.int (left rows a : Nat)), some (.int (right rows (rows.length - b) b : Nat)), Option.none, Option.none], tb := n }) (Ex1.whileR (fun k st => ∃ b', k + b' = rows.length ∧ st = { vars := [some (.list (rows.map rowD)), some (.int (left rows a : Nat)), some (.int (b' : Nat)), Option.none, Option.none], tb := n } ∧ right rows k b' = right rows (rows.length - b) b) (rows.length - b) ⟨b, by lia, rfl, rfl⟩ ?_) (fun st hst => ?_) fun _ _ h => h)
  · rintro k st ⟨b', hk, rfl, hl⟩
    refine Tst.and (Tst.cmp (Ev.name (d := .int (b' : Nat)) (by rfl) (Ev.len (by rfl) (Ev.name (d := .list (rows.map rowD)) (by rfl) ⟨_, rfl, by rw [List.length_map]; lia, decide (b' < rows.length), CmpOk.int (by simp [cmpI]), fun hq => ?_, fun hq => ⟨nofun, fun _ => ?_⟩⟩))))
    · have hb' : b' < rows.length := by simpa using hq
      refine Tst.val (Ev.call1 H16 (by rfl) (Ev.item (Ev.name (d := .list (rows.map rowD)) (by rfl) (Ev.name (d := .int (b' : Nat)) (by rfl) ⟨rowD rows[b'], rowItem hb' rfl hlen, ?_⟩))))
      obtain ⟨j, rfl⟩ : ∃ j, k = j + 1 := ⟨k - 1, by lia⟩
      rw [right] at hl
      refine ⟨1, 0, _, fn_lawidle H16 _ (hlv _ (List.getElem_mem hb')), Nat.le_refl _, hn, fun r hr => ⟨_, hr, fun hq => ?_, fun hq => ?_⟩⟩
      · rw [if_pos (by rw [idleAt_eq hb']; exact hq)] at hl
        exact Ex.cons (Ex1.assign (i := 2) (k := .local) (by rfl) (by rfl) (by rfl) (Ev.add (Ev.name (d := .int (b' : Nat)) (by rfl) (Ev.int ⟨_, _, rfl, rfl, Ex.nil ⟨j, by lia, b' + 1, by lia, rfl, hl⟩⟩))))
      · rw [if_neg (by rw [idleAt_eq hb']; simpa using hq)] at hl
        rw [← hl]; rfl
    · have hb' : rows.length ≤ b' := by simpa using hq
      have h0 : k = 0 := by lia
      subst h0
      rw [right] at hl
      rw [← hl]
  subst hst
  exact Ex.cons (Ex1.ret (Ev.tup2 (Ev.name (by rfl) (Ev.name (by rfl) ⟨rfl, Nat.le_refl _⟩))))

set_option maxHeartbeats 1000000 in
theorem fn_whole (K : ClsAt c fI fD) (HM : MethAt c fD) (H : FnAt c "search_whole" f (fA 5) (fB 5) (fC 5)) (rows : List Row) {n0 : Nat} (R : RowsIn rows n0) (p : Int → Bool) (a b : Nat) (ha : a < rows.length) (hb1 : 1 ≤ b) (hb : b ≤ rows.length) :
    Fn c f 2 0 [.list (rows.map pieceD), optP (some (a, b)), .keys p] (· = optP (wholeF p rows a b)) := by
  refine Fn.of H (ps := ["pieces", "stretch", "ends"]) (fun pm code doc vs hv => ?_) (by rfl) fun pm code doc L B n hn => ?_
  · obtain ⟨a, b, d, rfl⟩ := len3 hv rfl
    rfl
  have hlen := R.len
  have hn2 := R.n
  obtain ⟨o, fd, ho, hd, _⟩ := HM.at_
  have hlv : ∀ r ∈ rows, r.2.2.length ≤ 1000 := fun r hr => by have := (R.lv r hr).1; lia
  refine Ex.cons (Ex1.assign2 (i := 3) (k := .local) (j := 4) (k' := .local) (by rfl) (by rfl) (by rfl) (by rfl) (by rfl) (by rfl) (Ev.name (d := optP (some (a, b))) (by rfl) ⟨_, _, rfl, ?_⟩))
  refine Ex.cons (Ex.mono (N := fun st => ∃ x, wholeL p rows a = some x ∧ st = { vars := [some (.list (rows.map pieceD)), some (optP (some (a, b))), some (.keys p), some (.int (x : Nat)), some (.int (b : Nat)), Option.none], tb := n }) (Ex1.whileR (fun k st => ∃ a', k = a' ∧ st = { vars := [some (.list (rows.map pieceD)), some (optP (some (a, b))), some (.keys p), some (.int (a' : Nat)), some (.int (b : Nat)), Option.none], tb := n } ∧ a' ≤ a ∧ wholeL p rows a' = wholeL p rows a) a ⟨a, rfl, rfl, Nat.le_refl _, rfl⟩ ?_) (fun st hst => ?_) fun _ _ h => h)
  · rintro k st ⟨a', rfl, rfl, hle, hl⟩
    have hk : k < rows.length := by lia
    refine Tst.cmp (Ev.field K (Ev.item (Ev.name (d := .list (rows.map pieceD)) (by rfl) (Ev.name (d := .int (k : Nat)) (by rfl) ⟨pieceD rows[k], pieceItem hk rfl hlen, _, .first, Ev.name (d := .keys p) (by rfl) ⟨!p rows[k].1, CmpOk.notInKeys, fun hq => ?_, fun hq => ?_⟩⟩))))
    · have hp : p (firstAt rows k) = false := by rw [firstAt_eq hk]; simpa using hq
      refine Ex.cons (Ex1.ite (Tst.or (Tst.cmp (Ev.name (d := .int (k : Nat)) (by rfl) (Ev.int ⟨decide (k = 0), CmpOk.int (by simp [cmpI, Bool.beq_eq_decide_eq]), fun hq => ?_, fun hq => ⟨fun _ => ?_, nofun⟩⟩)))))
      · have hpos : 0 < k := by have : k ≠ 0 := by simpa using hq
                                lia
        have hk1 : k - 1 < rows.length := by lia
        rw [wholeL_pos p rows hpos, if_neg (by rw [hp]; simp)] at hl
        refine Tst.not (Tst.val (Ev.idle K ho hd (Ev.item (Ev.name (d := .list (rows.map pieceD)) (by rfl) (Ev.sub (Ev.name (d := .int (k : Nat)) (by rfl) (Ev.int ⟨_, _, rfl, rfl, pieceD rows[k - 1], pieceItem hk1 (by lia) hlen, ?_⟩)))))))
        refine ⟨1, 0, _, fn_idle K HM _ (hlv _ (List.getElem_mem hk1)), ⟨_, _, _, rfl⟩, Nat.le_refl _, hn, fun r hr => ⟨_, hr, fun hq => ?_, fun hq => Ex.nil ?_⟩⟩
        · rw [if_neg (by rw [idleAt_eq hk1]; simpa using hq)] at hl
          refine Ex.cons (Ex1.ret (Ev.none ⟨?_, Nat.le_refl _⟩))
          unfold wholeF; rw [← hl]; rfl
        · rw [if_pos (by rw [idleAt_eq hk1]; simpa using hq)] at hl
          refine Ex.cons (Ex1.isub (a := (k : Nat)) (i := 3) (k := .local) (by rfl) (by rfl) (by rfl) (by rfl) (Ev.int ⟨_, rfl, Ex.nil ⟨k - 1, by lia, k - 1, rfl, ?_, by lia, hl⟩⟩))
          have : ((k : Nat) : Int) - 1 = ((k - 1 : Nat) : Int) := by lia
          rw [this]; rfl
      · have h0 : k = 0 := by simpa using hq
        subst h0
        rw [wholeL, if_neg (by rw [hp]; simp)] at hl
        refine Ex.cons (Ex1.ret (Ev.none ⟨?_, Nat.le_refl _⟩))
        unfold wholeF; rw [← hl]; rfl
    · have hp : p (firstAt rows k) = true := by rw [firstAt_eq hk]; simpa using hq
      exact ⟨k, by rw [← hl, wholeL_if p rows k hp], rfl⟩
  obtain ⟨x, hx, rfl⟩ := hst
  have hwf : wholeF p rows a b = (wholeR p rows (rows.length - b) b).map fun y => (x, y) := by unfold wholeF; rw [hx]; rfl
  refine Ex.cons (Ex.mono (N := fun st => ∃ y, wholeR p rows (rows.length - b) b = some y ∧ st = { vars := [some (.list (rows.map pieceD)), some (optP (some (a, b))), some (.keys p), some (.int (x : Nat)), some (.int (y : Nat)), Option.none], tb := n }) (Ex1.whileR (fun k st => ∃ b', k + b' = rows.length ∧ 1 ≤ b' ∧ st = { vars := [some (.list (rows.map pieceD)), some (optP (some (a, b))), some (.keys p), some (.int (x : Nat)), some (.int (b' : Nat)), Option.none], tb := n } ∧ wholeR p rows k b' = wholeR p rows (rows.length - b) b) (rows.length - b) ⟨b, by lia, hb1, rfl, rfl⟩ ?_) (fun st hst => ?_) fun _ _ h => h)
  · rintro k st ⟨b', hk, hb1', rfl, hl⟩
    have hk1 : b' - 1 < rows.length := by lia
    refine Tst.cmp (Ev.field K (Ev.item (Ev.name (d := .list (rows.map pieceD)) (by rfl) (Ev.sub (Ev.name (d := .int (b' : Nat)) (by rfl) (Ev.int ⟨_, _, rfl, rfl, pieceD rows[b' - 1], pieceItem hk1 (by lia) hlen, _, .behind, Ev.name (d := .keys p) (by rfl) ⟨!p rows[b' - 1].2.1, CmpOk.notInKeys, fun hq => ?_, fun hq => ?_⟩⟩))))))
    · have hp : p (behindAt rows (b' - 1)) = false := by rw [behindAt_eq hk1]; simpa using hq
      refine Ex.cons (Ex1.ite (Tst.or (Tst.cmp (Ev.name (d := .int (b' : Nat)) (by rfl) (Ev.len (by rfl) (Ev.name (d := .list (rows.map pieceD)) (by rfl) ⟨_, rfl, by rw [List.length_map]; lia, decide (b' = rows.length), CmpOk.int (by simp [cmpI, Bool.beq_eq_decide_eq]; lia), fun hq => ?_, fun hq => ⟨fun _ => ?_, nofun⟩⟩))))))
      · have hne : b' ≠ rows.length := by simpa using hq
        have hb' : b' < rows.length := by lia
        obtain ⟨j, rfl⟩ : ∃ j, k = j + 1 := ⟨k - 1, by lia⟩
        rw [wholeR, if_neg (by rw [hp]; simp)] at hl
        refine Tst.not (Tst.val (Ev.idle K ho hd (Ev.item (Ev.name (d := .list (rows.map pieceD)) (by rfl) (Ev.name (d := .int (b' : Nat)) (by rfl) ⟨pieceD rows[b'], pieceItem hb' rfl hlen, ?_⟩)))))
        refine ⟨1, 0, _, fn_idle K HM _ (hlv _ (List.getElem_mem hb')), ⟨_, _, _, rfl⟩, Nat.le_refl _, hn, fun r hr => ⟨_, hr, fun hq => ?_, fun hq => Ex.nil ?_⟩⟩
        · rw [if_neg (by rw [idleAt_eq hb']; simpa using hq)] at hl
          refine Ex.cons (Ex1.ret (Ev.none ⟨?_, Nat.le_refl _⟩))
          rw [hwf, ← hl]; rfl
        · rw [if_pos (by rw [idleAt_eq hb']; simpa using hq)] at hl
          exact Ex.cons (Ex1.iadd (a := (b' : Nat)) (i := 4) (k := .local) (by rfl) (by rfl) (by rfl) (by rfl) (Ev.int ⟨_, rfl, Ex.nil ⟨j, by lia, b' + 1, by lia, by lia, rfl, hl⟩⟩))
      · have h0 : b' = rows.length := by simpa using hq
        have hk0 : k = 0 := by lia
        subst hk0
        rw [wholeR, if_neg (by rw [hp]; simp)] at hl
        refine Ex.cons (Ex1.ret (Ev.none ⟨?_, Nat.le_refl _⟩))
        rw [hwf, ← hl]; rfl
    · have hp : p (behindAt rows (b' - 1)) = true := by rw [behindAt_eq hk1]; simpa using hq
      refine ⟨b', ?_, rfl⟩
      rw [← hl]; cases k <;> rw [wholeR, if_pos hp]
  obtain ⟨y, hy, rfl⟩ := hst
  exact Ex.cons (Ex1.ret (Ev.tup2 (Ev.name (by rfl) (Ev.name (by rfl) ⟨by rw [hwf, hy]; rfl, Nat.le_refl _⟩))))

set_option maxHeartbeats 1000000 in
theorem fn_narrowed (K : ClsAt c fI fD) (HM : MethAt c fD) (H : FnAt c "search_narrowed" f (fA 6) (fB 6) (fC 6)) (rows : List Row) {n0 : Nat} (R : RowsIn rows n0) (p : Int → Bool) (a b c0 : Nat) (ha : a ≤ c0) (hb1 : c0 < b) (hb : b ≤ rows.length) (hc0 : idleAt rows c0 = false) :
    Fn c f 2 0 [.list (rows.map pieceD), optP (some (a, b)), .keys p] (· = optP (narF p rows a b)) := by
  refine Fn.of H (ps := ["pieces", "stretch", "ends"]) (fun pm code doc vs hv => ?_) (by rfl) fun pm code doc L B n hn => ?_
  · obtain ⟨a, b, d, rfl⟩ := len3 hv rfl
    rfl
  have hlen := R.len
  have hn2 := R.n
  obtain ⟨o, fd, ho, hd, _⟩ := HM.at_
  have hlv : ∀ r ∈ rows, r.2.2.length ≤ 1000 := fun r hr => by have := (R.lv r hr).1; lia
  refine Ex.cons (Ex1.assign2 (i := 3) (k := .local) (j := 4) (k' := .local) (by rfl) (by rfl) (by rfl) (by rfl) (by rfl) (by rfl) (Ev.name (d := optP (some (a, b))) (by rfl) ⟨_, _, rfl, ?_⟩))
  refine Ex.cons (Ex.mono (N := fun st => ∃ x, narL p rows (rows.length - a) a = some x ∧ st = { vars := [some (.list (rows.map pieceD)), some (optP (some (a, b))), some (.keys p), some (.int (x : Nat)), some (.int (b : Nat))], tb := n }) (Ex1.whileR (fun k st => ∃ a', k + a' = rows.length ∧ a' ≤ c0 ∧ st = { vars := [some (.list (rows.map pieceD)), some (optP (some (a, b))), some (.keys p), some (.int (a' : Nat)), some (.int (b : Nat))], tb := n } ∧ narL p rows k a' = narL p rows (rows.length - a) a) (rows.length - a) ⟨a, by lia, ha, rfl, rfl⟩ ?_) (fun st hst => ?_) fun _ _ h => h)
  · rintro k st ⟨a', hka, hac, rfl, hl⟩
    have hk : a' < rows.length := by lia
    obtain ⟨j, rfl⟩ : ∃ j, k = j + 1 := ⟨k - 1, by lia⟩
    rw [narL] at hl
    refine Tst.cmp (Ev.field K (Ev.item (Ev.name (d := .list (rows.map pieceD)) (by rfl) (Ev.name (d := .int (a' : Nat)) (by rfl) ⟨pieceD rows[a'], pieceItem hk rfl hlen, _, .first, Ev.name (d := .keys p) (by rfl) ⟨!p rows[a'].1, CmpOk.notInKeys, fun hq => ?_, fun hq => ?_⟩⟩))))
    · have hp : p (firstAt rows a') = false := by rw [firstAt_eq hk]; simpa using hq
      rw [if_neg (by rw [hp]; simp)] at hl
      refine Ex.cons (Ex1.ite (Tst.not (Tst.val (Ev.idle K ho hd (Ev.item (Ev.name (d := .list (rows.map pieceD)) (by rfl) (Ev.name (d := .int (a' : Nat)) (by rfl) ⟨pieceD rows[a'], pieceItem hk rfl hlen, ?_⟩)))))))
      refine ⟨1, 0, _, fn_idle K HM _ (hlv _ (List.getElem_mem hk)), ⟨_, _, _, rfl⟩, Nat.le_refl _, hn, fun r hr => ⟨_, hr, fun hq => ?_, fun hq => Ex.nil ?_⟩⟩
      · rw [if_neg (by rw [idleAt_eq hk]; simpa using hq)] at hl
        refine Ex.cons (Ex1.ret (Ev.none ⟨?_, Nat.le_refl _⟩))
        unfold narF; rw [← hl]; rfl
      · have hi : idleAt rows a' = true := by rw [idleAt_eq hk]; simpa using hq
        rw [if_pos hi] at hl
        have hne : a' ≠ c0 := fun e => by rw [e, hc0] at hi; cases hi
        exact Ex.cons (Ex1.iadd (a := (a' : Nat)) (i := 3) (k := .local) (by rfl) (by rfl) (by rfl) (by rfl) (Ev.int ⟨_, rfl, Ex.nil ⟨j, by lia, a' + 1, by lia, by lia, rfl, hl⟩⟩))
    · have hp : p (firstAt rows a') = true := by rw [firstAt_eq hk]; simpa using hq
      rw [if_pos hp] at hl
      exact ⟨a', hl.symm, rfl⟩
  obtain ⟨x, hx, rfl⟩ := hst
  have hwf : narF p rows a b = (narR p rows b).map fun y => (x, y) := by unfold narF; rw [hx]; rfl
  refine Ex.cons (Ex.mono (N := fun st => ∃ y, narR p rows b = some y ∧ st = { vars := [some (.list (rows.map pieceD)), some (optP (some (a, b))), some (.keys p), some (.int (x : Nat)), some (.int (y : Nat))], tb := n }) (Ex1.whileR (fun k st => ∃ b', k = b' ∧ c0 < b' ∧ b' ≤ b ∧ st = { vars := [some (.list (rows.map pieceD)), some (optP (some (a, b))), some (.keys p), some (.int (x : Nat)), some (.int (b' : Nat))], tb := n } ∧ narR p rows b' = narR p rows b) b ⟨b, rfl, hb1, Nat.le_refl _, rfl, rfl⟩ ?_) (fun st hst => ?_) fun _ _ h => h)
  · rintro k st ⟨b', rfl, hcb, hbb, rfl, hl⟩
    have hk1 : k - 1 < rows.length := by lia
    rw [narR_pos p rows (by lia)] at hl
    refine Tst.cmp (Ev.field K (Ev.item (Ev.name (d := .list (rows.map pieceD)) (by rfl) (Ev.sub (Ev.name (d := .int (k : Nat)) (by rfl) (Ev.int ⟨_, _, rfl, rfl, pieceD rows[k - 1], pieceItem hk1 (by lia) hlen, _, .behind, Ev.name (d := .keys p) (by rfl) ⟨!p rows[k - 1].2.1, CmpOk.notInKeys, fun hq => ?_, fun hq => ?_⟩⟩))))))
    · have hp : p (behindAt rows (k - 1)) = false := by rw [behindAt_eq hk1]; simpa using hq
      rw [if_neg (by rw [hp]; simp)] at hl
      refine Ex.cons (Ex1.ite (Tst.not (Tst.val (Ev.idle K ho hd (Ev.item (Ev.name (d := .list (rows.map pieceD)) (by rfl) (Ev.sub (Ev.name (d := .int (k : Nat)) (by rfl) (Ev.int ⟨_, _, rfl, rfl, pieceD rows[k - 1], pieceItem hk1 (by lia) hlen, ?_⟩)))))))))
      refine ⟨1, 0, _, fn_idle K HM _ (hlv _ (List.getElem_mem hk1)), ⟨_, _, _, rfl⟩, Nat.le_refl _, hn, fun r hr => ⟨_, hr, fun hq => ?_, fun hq => Ex.nil ?_⟩⟩
      · rw [if_neg (by rw [idleAt_eq hk1]; simpa using hq)] at hl
        refine Ex.cons (Ex1.ret (Ev.none ⟨?_, Nat.le_refl _⟩))
        rw [hwf, ← hl]; rfl
      · have hi : idleAt rows (k - 1) = true := by rw [idleAt_eq hk1]; simpa using hq
        rw [if_pos hi] at hl
        have hne : k - 1 ≠ c0 := fun e => by rw [e, hc0] at hi; cases hi
        refine Ex.cons (Ex1.isub (a := (k : Nat)) (i := 4) (k := .local) (by rfl) (by rfl) (by rfl) (by rfl) (Ev.int ⟨_, rfl, Ex.nil ⟨k - 1, by lia, k - 1, rfl, by lia, by lia, ?_, hl⟩⟩))
        have : ((k : Nat) : Int) - 1 = ((k - 1 : Nat) : Int) := by lia
        rw [this]; rfl
    · have hp : p (behindAt rows (k - 1)) = true := by rw [behindAt_eq hk1]; simpa using hq
      rw [if_pos hp] at hl
      exact ⟨k, hl.symm, rfl⟩
  obtain ⟨y, hy, rfl⟩ := hst
  exact Ex.cons (Ex1.ret (Ev.tup2 (Ev.name (by rfl) (Ev.name (by rfl) ⟨by rw [hwf, hy]; rfl, Nat.le_refl _⟩))))
end
end Mine

set_option maxRecDepth 100000
namespace Mine
open PySem PySem.W PyProof.Rows PySem.Calls

theorem wholeL_le (p : Int → Bool) (rows : List Row) : ∀ a x, wholeL p rows a = some x → x ≤ a
  | 0, x, h => by rw [wholeL] at h; split at h <;> simp at h; lia
  | a + 1, x, h => by
    rw [wholeL] at h
    split at h
    · simp at h; lia
    · split at h
      · have := wholeL_le p rows a x h; lia
      · cases h
theorem wholeR_le (p : Int → Bool) (rows : List Row) : ∀ k b y, wholeR p rows k b = some y → b ≤ y ∧ y ≤ b + k
  | 0, b, y, h => by rw [wholeR] at h; split at h <;> simp at h; lia
  | k + 1, b, y, h => by
    rw [wholeR] at h
    split at h
    · simp at h; lia
    · split at h
      · have := wholeR_le p rows k (b + 1) y h; lia
      · cases h
theorem narL_le (p : Int → Bool) (rows : List Row) : ∀ k a x, narL p rows k a = some x → a ≤ x ∧ ∀ c0, a ≤ c0 → idleAt rows c0 = false → x ≤ c0
  | 0, a, x, h => by rw [narL] at h; split at h <;> simp at h; subst h; exact ⟨Nat.le_refl _, fun _ h _ => h⟩
  | k + 1, a, x, h => by
    rw [narL] at h
    split at h
    · simp at h; subst h; exact ⟨Nat.le_refl _, fun _ h _ => h⟩
    · split at h
      · rename_i hi
        have := narL_le p rows k (a + 1) x h
        refine ⟨by lia, fun c0 h1 h2 => this.2 c0 ?_ h2⟩
        have : a ≠ c0 := fun e => by rw [e, h2] at hi; cases hi
        lia
      · cases h
theorem narR_le (p : Int → Bool) (rows : List Row) : ∀ b y, narR p rows b = some y → 1 ≤ y ∧ y ≤ b
  | 0, y, h => by simp [narR] at h
  | b + 1, y, h => by
    rw [narR] at h
    split at h
    · simp at h; lia
    · split at h
      · have := narR_le p rows b y h; lia
      · cases h
theorem chosenF_bound {p : Option (Int → Bool)} {rows : List Row} {wide : Bool} {a b x y : Nat} (hab : a < b) (hb : b ≤ rows.length) (hi : idleAt rows a = false) (h : chosenF p rows wide a b = some (x, y)) : x ≤ a ∧ 1 ≤ y ∧ y ≤ rows.length := by
  unfold chosenF at h
  have l1 := left_le rows a
  have r1 := right_ge rows (rows.length - b) b
  have r2 := right_le rows (rows.length - b) b
  split at h
  · cases p with
    | none => simp at h; lia
    | some p =>
      simp only [narF] at h
      obtain ⟨x', h1, h2⟩ := Option.bind_eq_some_iff.mp h
      obtain ⟨y', h3, h4⟩ := Option.map_eq_some_iff.mp h2
      cases h4
      have := (narL_le p rows _ _ _ h1).2 a l1 hi
      have := narR_le p rows _ _ h3
      lia
  · cases p with
    | none => simp at h; lia
    | some p =>
      simp only [wholeF] at h
      obtain ⟨x', h1, h2⟩ := Option.bind_eq_some_iff.mp h
      obtain ⟨y', h3, h4⟩ := Option.map_eq_some_iff.mp h2
      cases h4
      have := wholeL_le p rows _ _ h1
      have := wholeR_le p rows _ _ _ h3
      lia
theorem scan_bound (W : Lv) : ∀ (rs : List Row) acc k y, scan W rs acc k = some y → k < y ∧ y ≤ k + rs.length
  | [], _, _, _, h => by simp [scan] at h
  | r :: rs, acc, k, y, h => by
    rw [scan] at h
    split at h
    · simp at h; simp; lia
    · split at h
      · have := scan_bound W rs _ _ _ h; simp; lia
      · cases h
theorem stretchF_bound {rows : List Row} {s : Nat} {W : Lv} {a b : Nat} (hs : s < rows.length) (h : stretchF rows s W = some (a, b)) : a = s ∧ s < b ∧ b ≤ rows.length ∧ idleAt rows s = false := by
  unfold stretchF at h
  split at h
  · cases h
  · rename_i hi
    obtain ⟨y, h1, h2⟩ := Option.map_eq_some_iff.mp h
    cases h2
    have := scan_bound W _ _ _ _ h1
    rw [List.length_drop] at this
    exact ⟨rfl, this.1, by lia, by unfold idleAt; simpa using hi⟩

noncomputable def prD (q : Int × Int) : D := .tup [.int q.1, .int q.2]
theorem ok_pr (n : Nat) (q : Int × Int) : D.ok (n + 1) (prD q) = true := by cases n <;> rfl
theorem prD_inj {a b : Int × Int} (h : prD a = prD b) : a = b := by
  obtain ⟨a1, a2⟩ := a; obtain ⟨b1, b2⟩ := b
  simp only [prD, D.tup.injEq, List.cons.injEq, D.int.injEq, and_true] at h
  rw [h.1, h.2]
theorem map_prD_inj : ∀ {a b : List (Int × Int)}, a.map prD = b.map prD → a = b
  | [], [], _ => rfl
  | x :: a, y :: b, h => by
    simp only [List.map_cons, List.cons.injEq] at h
    rw [prD_inj h.1, map_prD_inj h.2]
  | [], _ :: _, h => by simp at h
  | _ :: _, [], h => by simp at h
theorem ok_prs (n : Nat) (q : List (Int × Int)) : D.ok (n + 2) (.list (q.map prD)) = true := by
  rw [D.ok_list]; intro d hd; obtain ⟨i, _, rfl⟩ := List.mem_map.mp hd; exact ok_pr n i
noncomputable def placeF (rows : List Row) (x y : Nat) : Int × Int := (firstAt rows x, behindAt rows (y - 1))
noncomputable def chosenAt (p : Option (Int → Bool)) (rows : List Row) (wide : Bool) (W : Lv) (s : Nat) : Option (Nat × Nat) := (stretchF rows s W).bind fun q => chosenF p rows wide q.1 q.2
noncomputable def allStep (p : Option (Int → Bool)) (rows : List Row) (wide : Bool) (W : Lv) (found : List (Int × Int)) (s : Nat) : List (Int × Int) :=
  match chosenAt p rows wide W s with
  | none => found
  | some (x, y) => if found = [] ∨ found.getLast? ≠ some (placeF rows x y) then found ++ [placeF rows x y] else found
noncomputable def allF (p : Option (Int → Bool)) (rows : List Row) (wide : Bool) (W : Lv) : List (Int × Int) := if isIdle W then [] else (List.range rows.length).foldl (allStep p rows wide W) []

noncomputable def apartS : List (Int × Int) × Int → Int × Int → List (Int × Int) × Int
  | (t, r), q => if q.1 ≥ r then (t ++ [q], q.2) else (t, r)
noncomputable def apartF (found : List (Int × Int)) : List (Int × Int) := (found.foldl apartS ([], 0)).1
noncomputable def backS : List (Int × Int) × Option Int → Int × Int → List (Int × Int) × Option Int
  | (t, none), q => (t ++ [q], some q.1)
  | (t, some r), q => if q.2 ≤ r then (t ++ [q], some q.1) else (t, some r)
noncomputable def backF (found : List (Int × Int)) : List (Int × Int) := (found.reverse.foldl backS ([], none)).1

section
variable {c : Cx} {f fI fD : Addr}

structure Fs (c : Cx) (fI fD : Addr) (f : Nat → Addr) : Prop where
  K : ClsAt c fI fD
  M : MethAt c fD
  f2 : FnAt c "search_begins" (f 2) (fA 2) (fB 2) (fC 2)
  f3 : FnAt c "search_stretch" (f 3) (fA 3) (fB 3) (fC 3)
  f4 : FnAt c "search_widest" (f 4) (fA 4) (fB 4) (fC 4)
  f5 : FnAt c "search_whole" (f 5) (fA 5) (fB 5) (fC 5)
  f6 : FnAt c "search_narrowed" (f 6) (fA 6) (fB 6) (fC 6)
  f7 : FnAt c "search_chosen" (f 7) (fA 7) (fB 7) (fC 7)
  f8 : FnAt c "search_all" (f 8) (fA 8) (fB 8) (fC 8)
  f9 : FnAt c "search_apart" (f 9) (fA 9) (fB 9) (fC 9)
  f10 : FnAt c "search_apart_back" (f 10) (fA 10) (fB 10) (fC 10)
  f12 : FnAt c "_law_draw" (f 12) (fA 12) (fB 12) (fC 12)
  f13 : FnAt c "_law_weights" (f 13) (fA 13) (fB 13) (fC 13)
  f14 : FnAt c "_law_pieces" (f 14) (fA 14) (fB 14) (fC 14)
  f15 : FnAt c "_law_joined" (f 15) (fA 15) (fB 15) (fC 15)
  f16 : FnAt c "_law_is_idle" (f 16) (fA 16) (fB 16) (fC 16)
  f17 : FnAt c "_law_cores" (f 17) (fA 17) (fB 17) (fC 17)
  f18 : FnAt c "_law_wide" (f 18) (fA 18) (fB 18) (fC 18)
  f19 : FnAt c "_law_settled" (f 19) (fA 19) (fB 19) (fC 19)
  f20 : FnAt c "_law_apart" (f 20) (fA 20) (fB 20) (fC 20)
  f21 : FnAt c "_law_mirrored" (f 21) (fA 21) (fB 21) (fC 21)
  f22 : FnAt c "_law_matches" (f 22) (fA 22) (fB 22) (fC 22)

set_option maxHeartbeats 1000000 in
theorem fn_chosen {f : Nat → Addr} (S : Fs c fI fD f) (rows : List Row) {n0 : Nat} (R : RowsIn rows n0) (p : Option (Int → Bool)) (wide : Bool) (a b : Nat) (hab : a < b) (hb : b ≤ rows.length) (hi : idleAt rows a = false) :
    Fn c (f 7) 3 0 [.list (rows.map pieceD), optP (some (a, b)), endD p, .bool wide] (· = optP (chosenF p rows wide a b)) := by
  refine Fn.of S.f7 (ps := ["pieces", "stretch", "ends", "is_wide"]) (fun pm code doc vs hv => ?_) (by rfl) fun pm code doc L B n hn => ?_
  · obtain ⟨a, b, d, e, rfl⟩ := len4 hv rfl
    rfl
  have l1 := left_le rows a
  have r1 := right_ge rows (rows.length - b) b
  have r2 := right_le rows (rows.length - b) b
  refine Ex.cons (Ex1.ite (Tst.val (Ev.name (d := .bool wide) (by rfl) ⟨wide, rfl, fun hq => ?_, fun hq => Ex.nil ?_⟩)))
  · subst hq
    refine Ex.cons (Ex1.assign (i := 1) (k := .local) (by rfl) (by rfl) (by rfl) (Ev.call2 S.f4 (by rfl) (Ev.name (d := .list (rows.map pieceD)) (by rfl) (Ev.name (d := optP (some (a, b))) (by rfl) ⟨2, 0, _, fn_widest S.K S.M S.f4 rows R a b (by lia) hb, Nat.le_refl _, hn, fun d hd => ?_⟩))))
    subst hd
    cases p with
    | none => exact Ex.cons (Ex1.ret (Ev.ifexp (Tst.cmp (Ev.name (d := .none) (by rfl) (Ev.none ⟨true, CmpOk.isNone (by simp), fun _ => Ev.name (by rfl) ⟨rfl, Nat.le_refl _⟩, nofun⟩)))))
    | some p =>
      refine Ex.cons (Ex1.ret (Ev.ifexp (Tst.cmp (Ev.name (d := .keys p) (by rfl) (Ev.none ⟨false, CmpOk.isNone (by simp), nofun, fun _ => ?_⟩)))))
      exact Ev.call3 S.f6 (by rfl) (Ev.name (d := .list (rows.map pieceD)) (by rfl) (Ev.name (d := optP (some (left rows a, right rows (rows.length - b) b))) (by rfl) (Ev.name (d := .keys p) (by rfl) ⟨2, 0, _, fn_narrowed S.K S.M S.f6 rows R p _ _ a l1 (by lia) (by lia) hi, Nat.le_refl _, hn, fun d hd => ⟨hd, Nat.le_refl _⟩⟩)))
  · subst hq
    cases p with
    | none => exact Ex.cons (Ex1.ret (Ev.ifexp (Tst.cmp (Ev.name (d := .none) (by rfl) (Ev.none ⟨true, CmpOk.isNone (by simp), fun _ => Ev.name (by rfl) ⟨rfl, Nat.le_refl _⟩, nofun⟩)))))
    | some p =>
      refine Ex.cons (Ex1.ret (Ev.ifexp (Tst.cmp (Ev.name (d := .keys p) (by rfl) (Ev.none ⟨false, CmpOk.isNone (by simp), nofun, fun _ => ?_⟩)))))
      exact Ev.call3 S.f5 (by rfl) (Ev.name (d := .list (rows.map pieceD)) (by rfl) (Ev.name (d := optP (some (a, b))) (by rfl) (Ev.name (d := .keys p) (by rfl) ⟨2, 0, _, fn_whole S.K S.M S.f5 rows R p a b (by lia) (by lia) hb, Nat.le_refl _, hn, fun d hd => ⟨hd, Nat.le_refl _⟩⟩)))

set_option maxHeartbeats 1000000 in
theorem fn_all {f : Nat → Addr} (S : Fs c fI fD f) (rows : List Row) (W : Lv) (R : RowsIn rows W.length) (hW : ∀ w ∈ W, w.length ≤ 1000) (p : Option (Int → Bool)) (wide : Bool) :
    Fn c (f 8) 4 0 [.list (rows.map pieceD), .list (lvs W), endD p, .bool wide] (· = .list ((allF p rows wide W).map prD)) := by
  refine Fn.of S.f8 (ps := ["pieces", "wanted", "ends", "is_wide"]) (fun pm code doc vs hv => ?_) (by rfl) fun pm code doc L B n hn => ?_
  · obtain ⟨a, b, d, e, rfl⟩ := len4 hv rfl
    rfl
  have hlen := R.len
  have hn2 := R.n
  refine Ex.cons (Ex1.ownNil (i := 4) (k := .local) (by rfl) (by rfl) ?_)
  refine Ex.cons (Ex1.ite (Tst.idleCmp (by rfl) (by decide) (by decide) (by decide) (It.list (Ev.name (d := .list (lvs W)) (by rfl) ⟨_, rfl, W, rfl, by lia, fun hq => ?_, fun hq => Ex.nil ?_⟩))))
  · refine Ex.cons (Ex1.ret (Ev.oname (by rfl) (by rfl) ⟨?_, Nat.le_refl _⟩))
    unfold allF; rw [if_pos hq]; rfl
  have hall : allF p rows wide W = (List.range rows.length).foldl (allStep p rows wide W) [] := by unfold allF; rw [if_neg (by simp [hq])]
  refine Ex.cons (Ex1.for (It.range1 (by rfl) (Ev.len (by rfl) (Ev.name (d := .list (rows.map pieceD)) (by rfl) ⟨_, rfl, by rw [List.length_map]; lia, _, rfl, by rw [List.length_map]; lia, by lia, ?_⟩))))
  rw [List.length_map, Int.toNat_natCast]
  refine Lp.inv (fun i st => st = { vars := [some (.list (rows.map pieceD)), some (.list (lvs W)), some (endD p), some (.bool wide), Option.none, Option.none, Option.none, Option.none, Option.none, Option.none, Option.none, Option.none], own := some (4, .list (((List.range i).foldl (allStep p rows wide W) []).map prD)), plain := true, tb := n }) ?_ rfl ?_
  · rintro i x hx st rfl
    have hx' := intsD_get hx
    subst hx'
    have hi : i < rows.length := by have := (List.getElem?_eq_some_iff.mp hx).1; rwa [intsD_length] at this
    generalize hF : (List.range i).foldl (allStep p rows wide W) [] = F
    have hF1 : (List.range (i + 1)).foldl (allStep p rows wide W) [] = allStep p rows wide W F i := by rw [List.range_succ, List.foldl_append, hF]; rfl
    rw [hF1]
    have hFl : F.length ≤ i := by
      rw [← hF]
      clear hF hF1 hx hi
      induction i with
      | zero => simp
      | succ i ih =>
        rw [List.range_succ, List.foldl_append]
        simp only [List.foldl_cons, List.foldl_nil]
        generalize List.foldl (allStep p rows wide W) [] (List.range i) = G at ih
        unfold allStep
        split
        · lia
        · split
          · rw [List.length_append, List.length_singleton]; lia
          · lia
    refine ExA.name (i := 5) (k := .local) (by rfl) (by rfl) (by rfl) ?_
    rw [show (0 : Int) + (i : Int) = (i : Nat) by lia]
    refine Ex.cons (Ex1.assign (i := 6) (k := .local) (by rfl) (by rfl) (by rfl) (Ev.call3 S.f3 (by rfl) (Ev.name (d := .list (rows.map pieceD)) (by rfl) (Ev.name (d := .int (i : Nat)) (by rfl) (Ev.name (d := .list (lvs W)) (by rfl) ⟨2, 0, _, fn_stretch S.K S.M S.f2 S.f3 rows W R hW i hi, (by decide : 2 ≤ 3), hn, fun d hd => ?_⟩)))))
    subst hd
    refine Ex.cons (Ex.mono (N := fun st => st = { vars := [some (.list (rows.map pieceD)), some (.list (lvs W)), some (endD p), some (.bool wide), Option.none, some (.int (i : Nat)), some (optP (chosenAt p rows wide W i)), Option.none, Option.none, Option.none, Option.none, Option.none], own := some (4, .list (F.map prD)), plain := true, tb := n }) (Ex1.ite (Tst.cmp (Ev.name (d := optP (stretchF rows i W)) (by rfl) (Ev.none ⟨(stretchF rows i W).isSome, CmpOk.isNotNone ?_, fun hq => ?_, fun hq => Ex.nil ?_⟩)))) (fun st hst => ?_) fun _ _ h => h)
    · rcases stretchF rows i W with _ | ⟨a, b⟩ <;> simp [optP]
    · obtain ⟨⟨a, b⟩, hab⟩ := Option.isSome_iff_exists.mp hq
      obtain ⟨rfl, h1, h2, h3⟩ := stretchF_bound hi hab
      rw [hab]
      refine Ex.cons (Ex1.assign (i := 6) (k := .local) (by rfl) (by rfl) (by rfl) (Ev.call4 S.f7 (by rfl) (Ev.name (d := .list (rows.map pieceD)) (by rfl) (Ev.name (d := optP (some (a, b))) (by rfl) (Ev.name (d := endD p) (by rfl) (Ev.name (d := .bool wide) (by rfl) ⟨3, 0, _, fn_chosen S rows R p wide a b h1 h2 h3, Nat.le_refl _, hn, fun d hd => Ex.nil ?_⟩))))))
      subst hd
      unfold chosenAt; rw [hab]; rfl
    · have : stretchF rows i W = none := by simpa using hq
      unfold chosenAt; rw [this]; rfl
    subst hst
    refine Ex.cons (Ex1.ite (Tst.cmp (Ev.name (d := optP (chosenAt p rows wide W i)) (by rfl) (Ev.none ⟨(chosenAt p rows wide W i).isSome, CmpOk.isNotNone ?_, fun hq => ?_, fun hq => Ex.nil (Ex.nil ?_)⟩))))
    · rcases chosenAt p rows wide W i with _ | ⟨a, b⟩ <;> simp [optP]
    · obtain ⟨⟨x, y⟩, hxy⟩ := Option.isSome_iff_exists.mp hq
      have hbd : x ≤ i ∧ 1 ≤ y ∧ y ≤ rows.length := by
        obtain ⟨⟨a, b⟩, h1, h2⟩ := Option.bind_eq_some_iff.mp hxy
        obtain ⟨rfl, h3, h4, h5⟩ := stretchF_bound hi h1
        exact chosenF_bound h3 h4 h5 h2
      have hxl : x < rows.length := by lia
      have hyl : y - 1 < rows.length := by lia
      rw [hxy]
      refine Ex.cons (Ex1.assign (i := 7) (k := .local) (by rfl) (by rfl) (by rfl) (Ev.tup2 (Ev.field S.K (Ev.item (Ev.name (d := .list (rows.map pieceD)) (by rfl) (Ev.item (Ev.name (d := optP (some (x, y))) (by rfl) (Ev.int ⟨.int (x : Nat), .tup (by decide) (by decide) rfl, pieceD rows[x], pieceItem hxl rfl hlen, _, .first, ?_⟩))))))))
      refine Ev.field S.K (Ev.item (Ev.name (d := .list (rows.map pieceD)) (by rfl) (Ev.sub (Ev.item (Ev.name (d := optP (some (x, y))) (by rfl) (Ev.int ⟨.int (y : Nat), .tup (by decide) (by decide) rfl, Ev.int ⟨_, _, rfl, rfl, pieceD rows[y - 1], pieceItem hyl (by lia) hlen, _, .behind, ?_⟩⟩))))))
      have hpl : prD (placeF rows x y) = .tup [.int rows[x].1, .int rows[y - 1].2.1] := by unfold placeF prD; rw [firstAt_eq hxl, behindAt_eq hyl]
      rw [← hpl]
      have hstep : allStep p rows wide W F i = if F = [] ∨ F.getLast? ≠ some (placeF rows x y) then F ++ [placeF rows x y] else F := by unfold allStep; rw [hxy]
      rw [hstep]
      refine Ex.cons (Ex1.ite (Tst.or (Tst.cmp (Ev.oname (by rfl) (by rfl) (Ev.nil ⟨decide (F = []), CmpOk.eq (ok_prs 6 F) (by rfl) (by simp), fun hq => ?_, fun hq => ?_⟩)))))
      · have hne : F ≠ [] := by simpa using hq
        obtain ⟨q, hq2⟩ : ∃ q, F.getLast? = some q := ⟨_, List.getLast?_eq_some_getLast hne⟩
        refine Tst.cmp (Ev.item (Ev.oname (by rfl) (by rfl) (Ev.neg (Ev.int ⟨_, rfl, prD q, .last (by simpa using hne) (by simp; lia) (by rw [List.getLast?_map, hq2]; rfl), Ev.name (d := prD (placeF rows x y)) (by rfl) ⟨decide (q ≠ placeF rows x y), CmpOk.ne (ok_pr 7 _) (ok_pr 7 _) ?_, fun hq3 => ?_, fun hq3 => Ex.nil (Ex.nil (Ex.nil ?_))⟩⟩))))
        · rw [decide_eq_true_iff]
          exact ⟨fun h e => h (prD_inj e), fun h e => h (by rw [e])⟩
        · have hq4 : q ≠ placeF rows x y := by simpa using hq3
          rw [if_pos (.inr (by rw [hq2]; simpa using hq4))]
          refine Ex.cons (Ex1.append (i := 4) (k := .local) (by rfl) (by rfl) rfl (by simp; lia) (Ev.name (d := prD (placeF rows x y)) (by rfl) (Ex.nil (Ex.nil (Ex.nil ⟨_, Sub.mk' (v := [some (.list (rows.map pieceD)), some (.list (lvs W)), some (endD p), some (.bool wide), Option.none, Option.none, Option.none, Option.none, Option.none, Option.none, Option.none, Option.none]) ⟨rfl, rfl, rfl, rfl, ⟨⟩⟩ (Nat.le_refl _), ?_⟩)))))
          simp
        · have hq4 : q = placeF rows x y := by simpa using hq3
          rw [if_neg (by rw [hq2, hq4]; simp [hne])]
          exact ⟨_, Sub.mk' (v := [some (.list (rows.map pieceD)), some (.list (lvs W)), some (endD p), some (.bool wide), Option.none, Option.none, Option.none, Option.none, Option.none, Option.none, Option.none, Option.none]) ⟨rfl, rfl, rfl, rfl, ⟨⟩⟩ (Nat.le_refl _), rfl⟩
      · refine ⟨fun _ => ?_, nofun⟩
        have hq4 : F = [] := by simpa using hq
        rw [if_pos (.inl hq4)]
        refine Ex.cons (Ex1.append (i := 4) (k := .local) (by rfl) (by rfl) rfl (by simp; lia) (Ev.name (d := prD (placeF rows x y)) (by rfl) (Ex.nil (Ex.nil (Ex.nil ⟨_, Sub.mk' (v := [some (.list (rows.map pieceD)), some (.list (lvs W)), some (endD p), some (.bool wide), Option.none, Option.none, Option.none, Option.none, Option.none, Option.none, Option.none, Option.none]) ⟨rfl, rfl, rfl, rfl, ⟨⟩⟩ (Nat.le_refl _), ?_⟩)))))
        simp
    · have : chosenAt p rows wide W i = none := by simpa using hq
      refine ⟨_, Sub.mk' (v := [some (.list (rows.map pieceD)), some (.list (lvs W)), some (endD p), some (.bool wide), Option.none, Option.none, Option.none, Option.none, Option.none, Option.none, Option.none, Option.none]) ⟨rfl, rfl, rfl, rfl, ⟨⟩⟩ (Nat.le_refl _), ?_⟩
      unfold allStep; rw [this]
  · rintro st st' rfl hsub
    rw [intsD_length] at hsub
    refine ExS.sub (Ex.cons (Ex1.ret (Ev.oname (by rfl) (by rfl) ⟨?_, Nat.le_refl _⟩))) hsub
    rw [hall]
end
end Mine

set_option maxRecDepth 100000
namespace Mine
open PySem PySem.W PyProof.Rows PySem.Calls

theorem apartS_len (l : List (Int × Int)) : ∀ (t : List (Int × Int)) (r : Int), (l.foldl apartS (t, r)).1.length ≤ t.length + l.length := by
  induction l with
  | nil => intro t r; simp
  | cons q l ih =>
    intro t r
    rw [List.foldl_cons, show apartS (t, r) q = if q.1 ≥ r then (t ++ [q], q.2) else (t, r) from rfl]
    split
    · have := ih (t ++ [q]) q.2
      simp at this ⊢; lia
    · have := ih t r
      simp at this ⊢; lia
theorem backS_len (l : List (Int × Int)) : ∀ (t : List (Int × Int)) (r : Option Int), (l.foldl backS (t, r)).1.length ≤ t.length + l.length := by
  induction l with
  | nil => intro t r; simp
  | cons q l ih =>
    intro t r
    rw [List.foldl_cons]
    cases r with
    | none =>
      have := ih (t ++ [q]) (some q.1)
      rw [show backS (t, none) q = (t ++ [q], some q.1) from rfl]
      simp at this ⊢; lia
    | some r =>
      rw [show backS (t, some r) q = if q.2 ≤ r then (t ++ [q], some q.1) else (t, some r) from rfl]
      split
      · have := ih (t ++ [q]) (some q.1)
        simp at this ⊢; lia
      · have := ih t (some r)
        simp at this ⊢; lia
noncomputable def optI : Option Int → D
  | none => .none
  | some r => .int r
noncomputable def mirF (size : Int) (found : List (Int × Int)) : List (Int × Int) := found.reverse.map fun q => (size - q.2, size - q.1)

section
variable {c : Cx} {fI fD : Addr}

set_option maxHeartbeats 1000000 in
theorem fn_apart {f : Nat → Addr} (S : Fs c fI fD f) (found : List (Int × Int)) (hl : found.length ≤ 1000) : Fn c (f 9) 1 0 [.list (found.map prD)] (· = .list ((apartF found).map prD)) := by
  refine Fn.of S.f9 (ps := ["found"]) (fun pm code doc vs hv => ?_) (by rfl) fun pm code doc L B n hn => ?_
  · obtain ⟨a, rfl⟩ := len1 hv rfl
    rfl
  refine Ex.cons (Ex1.swapOwn (i := 1) (k := .local) (j := 2) (k' := .local) (by rfl) (by rfl) (by rfl) (by rfl) rfl (Ev.int ?_))
  refine Ex.cons (Ex1.for (It.list (Ev.name (d := .list (found.map prD)) (by rfl) ⟨_, rfl, ?_⟩)))
  refine Lp.inv (fun i st => st = { vars := [some (.list (found.map prD)), Option.none, some (.int ((found.take i).foldl apartS ([], 0)).2), Option.none, Option.none], own := some (1, .list (((found.take i).foldl apartS ([], 0)).1.map prD)), plain := true, tb := n }) ?_ rfl ?_
  · rintro i x hx st rfl
    rw [List.getElem?_map] at hx
    obtain ⟨q, hq, rfl⟩ := Option.map_eq_some_iff.mp hx
    have hlen := apartS_len (found.take i) [] 0
    have htk : found.take (i + 1) = found.take i ++ [q] := by rw [List.take_add_one, hq]; rfl
    rw [htk, List.foldl_append]
    generalize (found.take i).foldl apartS ([], 0) = tr at hlen ⊢
    obtain ⟨t, r⟩ := tr
    have hl2 : t.length ≤ 1000 := by
      have : (found.take i).length ≤ found.length := by rw [List.length_take]; lia
      simp at hlen; lia
    refine ExA.tup2 (i := 3) (k := .local) (j := 4) (k' := .local) (by rfl) (by rfl) (by rfl) (by rfl) (by rfl) (by rfl) ?_
    refine Ex.cons (Ex1.ite (Tst.cmp (Ev.name (d := .int q.1) (by rfl) (Ev.name (d := .int r) (by rfl) ⟨decide (q.1 ≥ r), CmpOk.int (by simp [cmpI]), fun hq => ?_, fun hq => Ex.nil (Ex.nil ?_)⟩))))
    · have hq' : q.1 ≥ r := by simpa using hq
      refine Ex.cons (Ex1.append (i := 1) (k := .local) (by rfl) (by rfl) rfl (by simp; lia) (Ev.tup2 (Ev.name (d := .int q.1) (by rfl) (Ev.name (d := .int q.2) (by rfl) ?_))))
      refine Ex.cons (Ex1.assign (i := 2) (k := .local) (by rfl) (by rfl) (by rfl) (Ev.name (d := .int q.2) (by rfl) (Ex.nil (Ex.nil ⟨_, Sub.mk' (v := [some (.list (found.map prD)), Option.none, some (.int q.2), Option.none, Option.none]) ⟨rfl, rfl, ⟨⟩⟩ (Nat.le_refl _), ?_⟩))))
      simp [apartS, hq', prD]
    · have hq' : ¬ q.1 ≥ r := by simpa using hq
      refine ⟨_, Sub.mk' (v := [some (.list (found.map prD)), Option.none, some (.int r), Option.none, Option.none]) ⟨rfl, rfl, ⟨⟩⟩ (Nat.le_refl _), ?_⟩
      simp only [List.foldl_cons, List.foldl_nil, apartS, if_neg hq']
  · rintro st st' rfl hsub
    rw [List.length_map, List.take_length] at hsub
    exact ExS.sub (Ex.cons (Ex1.ret (Ev.oname (by rfl) (by rfl) ⟨rfl, Nat.le_refl _⟩))) hsub

set_option maxHeartbeats 1000000 in
theorem fn_lawapart {f : Nat → Addr} (S : Fs c fI fD f) (found : List (Int × Int)) (hl : found.length ≤ 1000) : Fn c (f 20) 1 0 [.list (found.map prD)] (· = .list ((apartF found).map prD)) := by
  refine Fn.of S.f20 (ps := ["found"]) (fun pm code doc vs hv => ?_) (by rfl) fun pm code doc L B n hn => ?_
  · obtain ⟨a, rfl⟩ := len1 hv rfl
    rfl
  refine Ex.cons (Ex1.swapOwn (i := 1) (k := .local) (j := 2) (k' := .local) (by rfl) (by rfl) (by rfl) (by rfl) rfl (Ev.int ?_))
  refine Ex.cons (Ex1.for (It.list (Ev.name (d := .list (found.map prD)) (by rfl) ⟨_, rfl, ?_⟩)))
  refine Lp.inv (fun i st => st = { vars := [some (.list (found.map prD)), Option.none, some (.int ((found.take i).foldl apartS ([], 0)).2), Option.none, Option.none], own := some (1, .list (((found.take i).foldl apartS ([], 0)).1.map prD)), plain := true, tb := n }) ?_ rfl ?_
  · rintro i x hx st rfl
    rw [List.getElem?_map] at hx
    obtain ⟨q, hq, rfl⟩ := Option.map_eq_some_iff.mp hx
    have hlen := apartS_len (found.take i) [] 0
    have htk : found.take (i + 1) = found.take i ++ [q] := by rw [List.take_add_one, hq]; rfl
    rw [htk, List.foldl_append]
    generalize (found.take i).foldl apartS ([], 0) = tr at hlen ⊢
    obtain ⟨t, r⟩ := tr
    have hl2 : t.length ≤ 1000 := by
      have : (found.take i).length ≤ found.length := by rw [List.length_take]; lia
      simp at hlen; lia
    refine ExA.tup2 (i := 3) (k := .local) (j := 4) (k' := .local) (by rfl) (by rfl) (by rfl) (by rfl) (by rfl) (by rfl) ?_
    refine Ex.cons (Ex1.ite (Tst.cmp (Ev.name (d := .int q.1) (by rfl) (Ev.name (d := .int r) (by rfl) ⟨decide (q.1 ≥ r), CmpOk.int (by simp [cmpI]), fun hq => ?_, fun hq => Ex.nil (Ex.nil ?_)⟩))))
    · have hq' : q.1 ≥ r := by simpa using hq
      refine Ex.cons (Ex1.append (i := 1) (k := .local) (by rfl) (by rfl) rfl (by simp; lia) (Ev.tup2 (Ev.name (d := .int q.1) (by rfl) (Ev.name (d := .int q.2) (by rfl) ?_))))
      refine Ex.cons (Ex1.assign (i := 2) (k := .local) (by rfl) (by rfl) (by rfl) (Ev.name (d := .int q.2) (by rfl) (Ex.nil (Ex.nil ⟨_, Sub.mk' (v := [some (.list (found.map prD)), Option.none, some (.int q.2), Option.none, Option.none]) ⟨rfl, rfl, ⟨⟩⟩ (Nat.le_refl _), ?_⟩))))
      simp [apartS, hq', prD]
    · have hq' : ¬ q.1 ≥ r := by simpa using hq
      refine ⟨_, Sub.mk' (v := [some (.list (found.map prD)), Option.none, some (.int r), Option.none, Option.none]) ⟨rfl, rfl, ⟨⟩⟩ (Nat.le_refl _), ?_⟩
      simp only [List.foldl_cons, List.foldl_nil, apartS, if_neg hq']
  · rintro st st' rfl hsub
    rw [List.length_map, List.take_length] at hsub
    exact ExS.sub (Ex.cons (Ex1.ret (Ev.oname (by rfl) (by rfl) ⟨rfl, Nat.le_refl _⟩))) hsub

set_option maxHeartbeats 1000000 in
theorem fn_back {f : Nat → Addr} (S : Fs c fI fD f) (found : List (Int × Int)) (hl : found.length ≤ 1000) : Fn c (f 10) 1 0 [.list (found.map prD)] (· = .list ((backF found).map prD)) := by
  refine Fn.of S.f10 (ps := ["found"]) (fun pm code doc vs hv => ?_) (by rfl) fun pm code doc L B n hn => ?_
  · obtain ⟨a, rfl⟩ := len1 hv rfl
    rfl
  refine Ex.cons (Ex1.swapOwn (i := 1) (k := .local) (j := 2) (k' := .local) (by rfl) (by rfl) (by rfl) (by rfl) rfl (Ev.none ?_))
  refine Ex.cons (Ex1.for (It.list (Ev.sliceRev (Ev.name (d := .list (found.map prD)) (by rfl) (Ev.neg (Ev.int ⟨_, rfl, _, rfl, rfl, by simp; lia, _, rfl, ?_⟩))))))
  rw [← List.map_reverse]
  have hrl : found.reverse.length ≤ 1000 := by rw [List.length_reverse]; exact hl
  unfold backF
  generalize hrev : found.reverse = rev at hrl ⊢
  refine Lp.inv (fun i st => st = { vars := [some (.list (found.map prD)), Option.none, some (optI ((rev.take i).foldl backS ([], none)).2), Option.none, Option.none], own := some (1, .list (((rev.take i).foldl backS ([], none)).1.map prD)), plain := true, tb := n }) ?_ rfl ?_
  · rintro i x hx st rfl
    rw [List.getElem?_map] at hx
    obtain ⟨q, hq, rfl⟩ := Option.map_eq_some_iff.mp hx
    have hlen := backS_len (rev.take i) [] none
    have htk : rev.take (i + 1) = rev.take i ++ [q] := by rw [List.take_add_one, hq]; rfl
    rw [htk, List.foldl_append]
    generalize (rev.take i).foldl backS ([], none) = tr at hlen ⊢
    obtain ⟨t, r⟩ := tr
    have hl2 : t.length ≤ 1000 := by
      have : (rev.take i).length ≤ rev.length := by rw [List.length_take]; lia
      simp at hlen; lia
    refine ExA.tup2 (i := 3) (k := .local) (j := 4) (k' := .local) (by rfl) (by rfl) (by rfl) (by rfl) (by rfl) (by rfl) ?_
    refine Ex.cons (Ex1.ite (Tst.or (Tst.cmp (Ev.name (d := optI r) (by rfl) (Ev.none ⟨r.isNone, CmpOk.isNone (by cases r <;> simp [optI]), fun hq => ?_, fun hq => ⟨fun _ => ?_, nofun⟩⟩)))))
    · cases r with
      | none => cases hq
      | some r =>
        refine Tst.cmp (Ev.name (d := .int q.2) (by rfl) (Ev.name (d := .int r) (by rfl) ⟨decide (q.2 ≤ r), CmpOk.int (by simp [cmpI]), fun hq => ?_, fun hq => Ex.nil (Ex.nil ?_)⟩))
        · have hq' : q.2 ≤ r := by simpa using hq
          refine Ex.cons (Ex1.append (i := 1) (k := .local) (by rfl) (by rfl) rfl (by simp; lia) (Ev.tup2 (Ev.name (d := .int q.1) (by rfl) (Ev.name (d := .int q.2) (by rfl) ?_))))
          refine Ex.cons (Ex1.assign (i := 2) (k := .local) (by rfl) (by rfl) (by rfl) (Ev.name (d := .int q.1) (by rfl) (Ex.nil (Ex.nil ⟨_, Sub.mk' (v := [some (.list (found.map prD)), Option.none, some (.int q.1), Option.none, Option.none]) ⟨rfl, rfl, ⟨⟩⟩ (Nat.le_refl _), ?_⟩))))
          simp [backS, hq', prD, optI]
        · have hq' : ¬ q.2 ≤ r := by simpa using hq
          refine ⟨_, Sub.mk' (v := [some (.list (found.map prD)), Option.none, some (.int r), Option.none, Option.none]) ⟨rfl, rfl, ⟨⟩⟩ (Nat.le_refl _), ?_⟩
          simp only [List.foldl_cons, List.foldl_nil, backS, if_neg hq', optI]
    · cases r with
      | some r => cases hq
      | none =>
        refine Ex.cons (Ex1.append (i := 1) (k := .local) (by rfl) (by rfl) rfl (by simp; lia) (Ev.tup2 (Ev.name (d := .int q.1) (by rfl) (Ev.name (d := .int q.2) (by rfl) ?_))))
        refine Ex.cons (Ex1.assign (i := 2) (k := .local) (by rfl) (by rfl) (by rfl) (Ev.name (d := .int q.1) (by rfl) (Ex.nil (Ex.nil ⟨_, Sub.mk' (v := [some (.list (found.map prD)), Option.none, some (.int q.1), Option.none, Option.none]) ⟨rfl, rfl, ⟨⟩⟩ (Nat.le_refl _), ?_⟩))))
        simp [backS, prD, optI]
  · rintro st st' rfl hsub
    rw [List.length_map, List.take_length] at hsub
    exact ExS.sub (Ex.cons (Ex1.ret (Ev.oname (by rfl) (by rfl) ⟨rfl, Nat.le_refl _⟩))) hsub

set_option maxHeartbeats 1000000 in
theorem fn_mirrored {f : Nat → Addr} (S : Fs c fI fD f) (found : List (Int × Int)) (size : Int) (hl : found.length ≤ 1000) : Fn c (f 21) 1 0 [.list (found.map prD), .int size] (· = .list ((mirF size found).map prD)) := by
  refine Fn.of S.f21 (ps := ["found", "size"]) (fun pm code doc vs hv => ?_) (by rfl) fun pm code doc L B n hn => ?_
  · obtain ⟨a, b, rfl⟩ := len2 hv rfl
    rfl
  refine Ex.cons (Ex1.ret (Ev.comp1 (by rfl) (It.list (Ev.sliceRev (Ev.name (d := .list (found.map prD)) (by rfl) (Ev.neg (Ev.int ⟨_, rfl, _, rfl, rfl, by simp; lia, _, rfl, fun D₀ cl C => ?_⟩)))))))
  rw [← List.map_reverse]
  refine CpT.sel (R := fun y d => ∃ q : Int × Int, y = prD q ∧ d = prD (size - q.2, size - q.1)) (S := fun _ => False) (b := 0) (by simp; lia) (fun y hy n' hn' => ?_) fun ds hsel => ?_
  · obtain ⟨q, hq, rfl⟩ := List.mem_map.mp hy
    refine TgA.tup2 (i := 1) (k := .local) (j := 2) (k' := .local) (by rfl) (by rfl) (by rfl) (by rfl) (IfsT.nil ⟨fun _ => ?_, nofun⟩)
    refine Ev.tup2 (Ev.sub (Ev.name (d := .int size) (by rfl) (Ev.name (d := .int q.2) (by rfl) ⟨_, _, rfl, rfl, Ev.sub (Ev.name (d := .int size) (by rfl) (Ev.name (d := .int q.1) (by rfl) ⟨_, _, rfl, rfl, ⟨q, rfl, rfl⟩, ?_⟩))⟩)))
    exact Sub.mk' ⟨rfl, ⟨⟩⟩ (Nat.le_refl _)
  · refine ⟨?_, by simp⟩
    have : ds = (mirF size found).map prD := by
      refine hsel.eq (by simp [mirF]) fun k x d hx ⟨q, hy, hd⟩ => ?_
      subst hy hd
      rw [List.getElem?_map] at hx
      obtain ⟨q', hq', e⟩ := Option.map_eq_some_iff.mp hx
      have := prD_inj e
      subst this
      show ((found.reverse.map fun q => (size - q.2, size - q.1)).map prD)[k]? = _
      rw [List.getElem?_map, List.getElem?_map, hq']; rfl
    rw [this]

set_option maxHeartbeats 1000000 in
theorem fn_weights {f : Nat → Addr} (S : Fs c fI fD f) : Fn c (f 13) 2 3 [.deck] (fun d => ∃ ws : List Int, d = ws2D ws ∧ ws.length ≤ 2) := by
  refine Fn.of S.f13 (ps := ["deck"]) (fun pm code doc vs hv => ?_) (by rfl) fun pm code doc L B n hn => ?_
  · obtain ⟨a, rfl⟩ := len1 hv rfl
    rfl
  have hn' : n + 3 ≤ 100000 := hn
  refine Ex.cons (Ex1.ret (Ev.comp1 (by rfl) (It.range1 (by rfl) ?_)))
  refine Ev.item (Ev.list (EvL.cons (Ev.int (EvL.cons (Ev.int (EvL.cons (Ev.int (EvL.cons (Ev.int (EvL.nil ⟨by decide, ?_⟩))))))))))
  refine Ev.call2 S.f12 (by rfl) (Ev.name (d := .deck) (by rfl) (Ev.int ⟨1, 1, _, fn_draw S.f12 4 (by decide), Nat.le_refl _, (by show n + 1 ≤ 100000; lia), fun d hd => ?_⟩))
  obtain ⟨r, rfl, h0, h1⟩ := hd
  have hr : r = 0 ∨ r = 1 ∨ r = 2 ∨ r = 3 := by lia
  have key : ∃ m : Int, 0 ≤ m ∧ m ≤ 2 ∧ ItemOk (.list [.int 1, .int 0, .int 0, .int 2]) (.int r) (.int m) := by
    rcases hr with rfl | rfl | rfl | rfl
    · exact ⟨1, by decide, by decide, .list (by decide) (by decide) rfl⟩
    · exact ⟨0, by decide, by decide, .list (by decide) (by decide) rfl⟩
    · exact ⟨0, by decide, by decide, .list (by decide) (by decide) rfl⟩
    · exact ⟨2, by decide, by decide, .list (by decide) (by decide) rfl⟩
  obtain ⟨m, hm0, hm1, hitem⟩ := key
  refine ⟨_, hitem, m, rfl, by lia, by lia, fun D₀ cl C => ?_⟩
  refine CpT.sel (R := fun y d => ∃ w : Int, d = .int w) (S := fun _ => False) (b := 1) (by rw [intsD_length]; lia) (fun y hy n2 hn2 => ?_) fun ds hsel => ?_
  · have hn3 : n2 + 1 ≤ 100000 := by
      rw [intsD_length] at hn2
      have : n2 + 1 ≤ (n + 1) + m.toNat * 1 := hn2
      lia
    refine TgA.name (i := 1) (k := .local) (by rfl) (by rfl) (IfsT.nil ⟨fun _ => ?_, nofun⟩)
    refine Ev.add (Ev.int (Ev.call2 S.f12 (by rfl) (Ev.name (d := .deck) (by rfl) (Ev.int ⟨1, 1, _, fn_draw S.f12 2 (by decide), Nat.le_refl _, hn3, fun d hd => ?_⟩))))
    obtain ⟨r2, rfl, _, _⟩ := hd
    exact ⟨_, _, rfl, rfl, ⟨_, rfl⟩, Sub.mk' ⟨rfl, ⟨⟩⟩ (Nat.le_refl _)⟩
  · have hl := hsel.len
    rw [intsD_length] at hl
    have : ∃ ws : List Int, ds = ws.map .int := by
      clear hl
      generalize intsD 0 m.toNat = xs at hsel
      induction hsel with
      | nil => exact ⟨[], rfl⟩
      | take a _ ih => obtain ⟨w, rfl⟩ := a; obtain ⟨ws, rfl⟩ := ih; exact ⟨w :: ws, rfl⟩
      | skip a _ ih => exact a.elim
    obtain ⟨ws, rfl⟩ := this
    rw [List.length_map] at hl
    refine ⟨⟨ws, rfl, by lia⟩, ?_⟩
    rw [intsD_length]
    show n + 1 + m.toNat * 1 ≤ n + 3
    lia
end
end Mine

set_option maxRecDepth 100000
namespace Mine
open PySem PySem.W PyProof.Rows PySem.Calls

structure RowsOk (n : Nat) (rows : List Row) : Prop where
  ne : 1 ≤ rows.length
  inn : RowsIn rows n
  wide : ∀ r ∈ rows, r.1 < r.2.1
  pos : ∀ r ∈ rows, 0 ≤ r.1
  chain : rows.Pairwise fun r s => r.2.1 ≤ s.1

noncomputable def joinF (n : Nat) (rows : List Row) : Lv := (List.range n).map fun k => rows.flatMap fun r => (r.2.2[k]?).getD []
theorem ints_of_sel {xs ds : List D} (h : Sel (fun _ d => ∃ w : Int, d = .int w) (fun _ => False) xs ds) : ∃ ws : List Int, ds = ws.map .int := by
  induction h with
  | nil => exact ⟨[], rfl⟩
  | take a _ ih => obtain ⟨w, rfl⟩ := a; obtain ⟨ws, rfl⟩ := ih; exact ⟨w :: ws, rfl⟩
  | skip a _ ih => exact a.elim
theorem lvs_of_sel {xs ds : List D} (h : Sel (fun _ d => ∃ ws : List Int, d = ws2D ws ∧ ws.length ≤ 2) (fun _ => False) xs ds) : ∃ lv : Lv, ds = lvs lv ∧ lv.length = xs.length ∧ ∀ w ∈ lv, w.length ≤ 2 := by
  induction h with
  | nil => exact ⟨[], rfl, rfl, by simp⟩
  | take a _ ih =>
    obtain ⟨w, rfl, hw⟩ := a; obtain ⟨ws, rfl, h1, h2⟩ := ih
    exact ⟨w :: ws, rfl, by simp [h1], fun x hx => (List.mem_cons.mp hx).elim (fun e => e ▸ hw) (h2 x)⟩
  | skip a _ ih => exact a.elim

theorem flat_len : ∀ (l : List Row) (k : Nat), (∀ r ∈ l, ∀ w ∈ r.2.2, w.length ≤ 2) → (l.flatMap fun r => (r.2.2[k]?).getD []).length ≤ 2 * l.length
  | [], _, _ => by simp
  | r :: l, k, h => by
    have ih := flat_len l k fun r hr => h r (.tail _ hr)
    rw [List.flatMap_cons, List.length_append, List.length_cons]
    have : ((r.2.2[k]?).getD []).length ≤ 2 := by
      cases q : r.2.2[k]? with
      | none => simp
      | some w => exact h r (.head _) w (List.mem_of_getElem? q)
    lia
section
variable {c : Cx} {fI fD : Addr}

set_option maxHeartbeats 1000000 in
theorem fn_pieces {f : Nat → Addr} (S : Fs c fI fD f) (lv : Nat) (hlv : lv ≤ 2) : Fn c (f 14) 3 57 [.deck, .int (lv : Nat)] (fun d => ∃ rows : List Row, d = .list (rows.map rowD) ∧ RowsOk lv rows) := by
  refine Fn.of S.f14 (ps := ["deck", "levels"]) (fun pm code doc vs hv => ?_) (by rfl) fun pm code doc L B n hn => ?_
  · obtain ⟨a, b, rfl⟩ := len2 hv rfl
    rfl
  have hn' : n + 57 ≤ 100000 := hn
  refine Ex.cons (Ex1.swapOwn (i := 2) (k := .local) (j := 3) (k' := .local) (by rfl) (by rfl) (by rfl) (by rfl) rfl (Ev.int ?_))
  refine Ex.cons (Ex1.for (It.range1 (by rfl) (Ev.add (Ev.int (Ev.call2 S.f12 (by rfl) (Ev.name (d := .deck) (by rfl) (Ev.int ⟨1, 1, _, fn_draw S.f12 8 (by decide), (by decide : 1 ≤ 2), (by show n + 1 ≤ 100000; lia), fun d hd => ?_⟩)))))))
  obtain ⟨r, rfl, h0, h1⟩ := hd
  refine ⟨_, _, rfl, rfl, _, rfl, by lia, by lia, ?_⟩
  have hcnt : (1 + r).toNat ≤ 8 := by lia
  have hcnt1 : 1 ≤ (1 + r).toNat := by lia
  generalize (1 + r).toNat = cnt at hcnt hcnt1
  refine Lp.inv (fun i st => ∃ (rows : List Row) (place : Int), st = { vars := [some .deck, some (.int (lv : Nat)), Option.none, some (.int place), Option.none, Option.none, Option.none, Option.none], own := some (2, .list (rows.map rowD)), plain := true, tb := n + 1 + 7 * i } ∧
    rows.length = i ∧ 0 ≤ place ∧ (∀ r ∈ rows, (r.2.2.length = lv ∧ ∀ w ∈ r.2.2, w.length ≤ 2) ∧ r.1 < r.2.1 ∧ 0 ≤ r.1 ∧ r.2.1 ≤ place) ∧ rows.Pairwise fun r s => r.2.1 ≤ s.1) ?_ ⟨[], 0, rfl, rfl, Int.le_refl _, by simp, List.Pairwise.nil⟩ ?_
  · rintro i x hx st ⟨rows, place, rfl, hrl, hp0, hr, hpw⟩
    have hi : i < cnt := by have := (List.getElem?_eq_some_iff.mp hx).1; rwa [intsD_length] at this
    have hx' := intsD_get hx
    subst hx'
    refine ExA.name (i := 4) (k := .local) (by rfl) (by rfl) (by rfl) ?_
    refine Ex.cons (Ex1.assign (i := 5) (k := .local) (by rfl) (by rfl) (by rfl) (Ev.add (Ev.int (Ev.call2 S.f12 (by rfl) (Ev.name (d := .deck) (by rfl) (Ev.int ⟨1, 1, _, fn_draw S.f12 3 (by decide), (by decide : 1 ≤ 2), (by show n + 1 + 7 * i + 1 ≤ 100000; lia), fun d hd => ?_⟩))))))
    obtain ⟨z, rfl, hz0, hz1⟩ := hd
    refine ⟨_, _, rfl, rfl, ?_⟩
    refine Ex.cons (Ex1.append (i := 2) (k := .local) (by rfl) (by rfl) rfl (by simp; lia) (Ev.tup3 (Ev.name (d := .int place) (by rfl) (Ev.add (Ev.name (d := .int place) (by rfl) (Ev.name (d := .int (1 + z)) (by rfl) ⟨_, _, rfl, rfl, ?_⟩))))))
    refine Ev.comp1 (by rfl) (It.range1 (by rfl) (Ev.name (d := .int (lv : Nat)) (by rfl) ⟨_, rfl, by lia, by lia, fun D₀ cl C => ?_⟩))
    rw [Int.toNat_natCast]
    refine CpT.sel (R := fun y d => ∃ ws : List Int, d = ws2D ws ∧ ws.length ≤ 2) (S := fun _ => False) (b := 3) (by rw [intsD_length]; lia) (fun y hy n2 hn2 => ?_) fun ds hsel => ?_
    · have hn3 : n2 + 3 ≤ 100000 := by
        rw [intsD_length] at hn2
        have : n2 + 3 ≤ (n + 1 + 7 * i + 1) + lv * 3 := hn2
        lia
      refine TgA.name (i := 1) (k := .local) (by rfl) (by rfl) (IfsT.nil ⟨fun _ => ?_, nofun⟩)
      exact Ev.call1 S.f13 (by rfl) (Ev.name (d := .deck) (by rfl) ⟨2, 3, _, fn_weights S, Nat.le_refl _, hn3, fun d hd => ⟨hd, Sub.mk' ⟨rfl, ⟨⟩⟩ (Nat.le_refl _)⟩⟩)
    · obtain ⟨ls, rfl, hl1, hl2⟩ := lvs_of_sel hsel
      rw [intsD_length] at hl1 ⊢
      refine Ex.cons (Ex1.assign (i := 3) (k := .local) (by rfl) (by rfl) (by rfl) (Ev.add (Ev.name (d := .int place) (by rfl) (Ev.name (d := .int (1 + z)) (by rfl) ⟨_, _, rfl, rfl, Ex.nil ⟨_, Sub.mk' (v := [some .deck, some (.int (lv : Nat)), Option.none, some (.int (place + (1 + z))), Option.none, Option.none, Option.none, Option.none]) ⟨rfl, rfl, rfl, ⟨⟩⟩ (n := n + 1 + 7 * (i + 1)) ?_, rows ++ [(place, place + (1 + z), ls)], place + (1 + z), ?_, by simp [hrl], by lia, ?_, ?_⟩⟩))))
      · show n + 1 + 7 * i + 1 + lv * 3 ≤ n + 1 + 7 * (i + 1)
        lia
      · simp [rowD]
      · intro r hr'
        rcases List.mem_append.mp hr' with h | h
        · obtain ⟨a1, a2, a3, a4⟩ := hr r h
          exact ⟨a1, a2, a3, by lia⟩
        · simp at h; subst h
          exact ⟨⟨hl1, hl2⟩, by show place < place + (1 + z); lia, hp0, Int.le_refl _⟩
      · rw [List.pairwise_append]
        refine ⟨hpw, List.pairwise_singleton _ _, fun r hr' q hq => ?_⟩
        simp at hq; subst hq
        exact (hr r hr').2.2.2
  · rintro st st' ⟨rows, place, rfl, hrl, hp0, hr, hpw⟩ hsub
    rw [intsD_length] at hrl hsub
    refine ExS.sub (Ex.cons (Ex1.ret (Ev.oname (by rfl) (by rfl) ⟨⟨rows, rfl, by lia, ⟨by lia, fun r h => (hr r h).1, hlv⟩, fun r h => (hr r h).2.1, fun r h => (hr r h).2.2.1, hpw⟩, ?_⟩))) hsub
    show n + 1 + 7 * cnt ≤ n + 57
    lia

set_option maxHeartbeats 1000000 in
theorem fn_joined {f : Nat → Addr} (S : Fs c fI fD f) (rows : List Row) (n0 : Nat) (R : RowsIn rows n0) : Fn c (f 15) 1 0 [.list (rows.map rowD), .int (n0 : Nat)] (· = .list (lvs (joinF n0 rows))) := by
  refine Fn.of S.f15 (ps := ["rows", "levels"]) (fun pm code doc vs hv => ?_) (by rfl) fun pm code doc L B n hn => ?_
  · obtain ⟨a, b, rfl⟩ := len2 hv rfl
    rfl
  have hlen := R.len
  have hn2 := R.n
  refine Ex.cons (Ex1.ret (Ev.comp1 (by rfl) (It.range1 (by rfl) (Ev.name (d := .int (n0 : Nat)) (by rfl) ⟨_, rfl, by lia, by lia, fun D₀ cl C => ?_⟩))))
  rw [Int.toNat_natCast]
  refine CpT.sel (R := fun y d => ∃ k : Nat, y = .int (k : Nat) ∧ d = ws2D (rows.flatMap fun r => (r.2.2[k]?).getD [])) (S := fun _ => False) (b := 0) (by rw [intsD_length]; lia) (fun y hy n' hn' => ?_) fun ds hsel => ?_
  · obtain ⟨k, hk⟩ := List.getElem?_of_mem hy
    have hkl : k < n0 := by have := (List.getElem?_eq_some_iff.mp hk).1; rwa [intsD_length] at this
    have hyk := intsD_get hk
    subst hyk
    rw [show (0 : Int) + (k : Int) = (k : Nat) by lia]
    refine TgA.name (i := 1) (k := .cell) (by rfl) (by rfl) (IfsT.nil ⟨fun _ => ?_, nofun⟩)
    refine Ev.comp2 (by rfl) (It.list (Ev.name (d := .list (rows.map rowD)) (by rfl) ⟨_, rfl, fun D1 cl1 C1 => ?_⟩))
    refine CpT.inv (fun i acc st' => st' = { vars := [Option.none, Option.none, Option.none, some (.int (k : Nat))], tb := n' } ∧ acc = ((rows.take i).flatMap fun r => (r.2.2[k]?).getD []).map .int) (fun i x hx acc st' ⟨e, hacc⟩ => ?_) ⟨rfl, by simp⟩ fun acc st' ⟨e, hacc⟩ => ?_
    · subst e
      rw [List.getElem?_map] at hx
      obtain ⟨r, hr, rfl⟩ := Option.map_eq_some_iff.mp hx
      have hrm := List.mem_of_getElem? hr
      obtain ⟨hr1, hr2⟩ := R.lv r hrm
      have hkr : k < r.2.2.length := by lia
      have htk : rows.take (i + 1) = rows.take i ++ [r] := by rw [List.take_add_one, hr]; rfl
      have hil : i < rows.length := (List.getElem?_eq_some_iff.mp hr).1
      have hal : acc.length ≤ 2 * i := by
        subst hacc
        clear hx hr htk
        rw [List.length_map]
        have := flat_len (rows.take i) k fun r hr => (R.lv r (List.mem_of_mem_take hr)).2
        have h5 : (rows.take i).length ≤ i := by rw [List.length_take]; lia
        lia
      refine TgA.name (i := 1) (k := .local) (by rfl) (by rfl) (IfsT.nil ⟨fun _ => ?_, nofun⟩)
      refine Cs.gen2 (It.list (Ev.item (Ev.item (Ev.name (d := rowD r) (by rfl) (Ev.int ⟨.list (lvs r.2.2), .tup (by decide) (by decide) rfl, Ev.name (d := .int (k : Nat)) (by rfl) ⟨ws2D r.2.2[k], .list (by lia) (by lia) ?_, _, rfl, ?_⟩⟩)))))
      · unfold lvs
        rw [Int.toNat_natCast, List.getElem?_map, List.getElem?_eq_getElem hkr]; rfl
      have hwl := hr2 _ (List.getElem_mem hkr)
      generalize hw : r.2.2[k] = w at hwl
      refine CpT.inv (fun j acc' st' => st' = { vars := [Option.none, some (rowD r), Option.none, some (.int (k : Nat))], tb := n' } ∧ acc' = acc ++ (w.take j).map .int) (fun j x hx acc' st' ⟨e, hacc'⟩ => ?_) ⟨rfl, by simp⟩ fun acc' st' ⟨e, hacc'⟩ => ?_
      · subst e
        rw [List.getElem?_map] at hx
        obtain ⟨z, hz, rfl⟩ := Option.map_eq_some_iff.mp hx
        have hjl : j < w.length := (List.getElem?_eq_some_iff.mp hz).1
        refine TgA.name (i := 2) (k := .local) (by rfl) (by rfl) (IfsT.nil ⟨fun _ => ?_, nofun⟩)
        refine Cs.emit (by subst hacc'; simp; lia) (Ev.name (d := .int z) (by rfl) ⟨_, Sub.mk' (v := [Option.none, some (rowD r), Option.none, some (.int (k : Nat))]) ⟨rfl, rfl, ⟨⟩⟩ (Nat.le_refl _), rfl, ?_⟩)
        subst hacc'
        rw [List.take_add_one, hz]; simp
      · subst e
        refine ⟨_, Sub.mk' (v := [Option.none, Option.none, Option.none, some (.int (k : Nat))]) ⟨rfl, ⟨⟩⟩ (Nat.le_refl _), rfl, ?_⟩
        rw [List.length_map, List.take_length] at hacc'
        rw [hacc', hacc, htk, List.flatMap_append]
        simp [List.getElem?_eq_getElem hkr, hw]
    · subst e
      rw [List.length_map, List.take_length] at hacc
      subst hacc
      exact ⟨⟨k, rfl, rfl⟩, Sub.mk' ⟨rfl, ⟨⟩⟩ (Nat.le_refl _)⟩
  · refine ⟨?_, by simp⟩
    have : ds = lvs (joinF n0 rows) := by
      refine hsel.eq (by simp [joinF, lvs, intsD]) fun k x d hx ⟨k', hy, hd⟩ => ?_
      have hkl : k < n0 := by have := (List.getElem?_eq_some_iff.mp hx).1; rwa [intsD_length] at this
      have hxx := intsD_get hx
      rw [hxx] at hy
      simp only [D.int.injEq] at hy
      have : k = k' := by lia
      subst this
      subst hd
      unfold lvs joinF
      rw [List.getElem?_map, List.getElem?_map, List.getElem?_range hkl]; rfl
    rw [this]
end
end Mine

set_option maxRecDepth 100000
namespace Mine
open PySem PySem.W PyProof.Rows PySem.Calls

noncomputable def okQ (rows : List Row) (W : Lv) (low high : Nat) : Bool := !idleAt rows low && !idleAt rows (high - 1) && decide (joinF W.length ((rows.drop low).take (high - low)) = W)
noncomputable def coreS (rows : List Row) (W : Lv) (low : Nat) (acc : Option Nat) (j : Nat) : Option Nat := if okQ rows W low (low + 1 + j) then some (low + 1 + j) else acc
noncomputable def coreF (rows : List Row) (W : Lv) (low : Nat) : Option Nat := (List.range (rows.length - low)).foldl (coreS rows W low) none
noncomputable def upI (o : Option Nat) : Option Int := o.map fun j => (j : Int)

noncomputable def okL (p : Option (Int → Bool)) (rows : List Row) (i : Nat) : Bool := match p with | none => true | some p => p (firstAt rows i)
noncomputable def okR (p : Option (Int → Bool)) (rows : List Row) (j : Nat) : Bool := match p with | none => true | some p => p (behindAt rows (j - 1))
noncomputable def inL (p : Option (Int → Bool)) (rows : List Row) (a i : Nat) : Prop := left rows a ≤ i ∧ i ≤ a ∧ okL p rows i = true
noncomputable def inR (p : Option (Int → Bool)) (rows : List Row) (b j : Nat) : Prop := b ≤ j ∧ j ≤ right rows (rows.length - b) b ∧ okR p rows j = true
noncomputable def SetP (p : Option (Int → Bool)) (rows : List Row) (wide : Bool) (a b : Nat) (r : Option (Nat × Nat)) : Prop :=
  (r = none ∧ ((∀ i, ¬ inL p rows a i) ∨ ∀ j, ¬ inR p rows b j)) ∨
  ∃ x y, r = some (x, y) ∧ inL p rows a x ∧ inR p rows b y ∧ (wide = true → (∀ i, inL p rows a i → x ≤ i) ∧ ∀ j, inR p rows b j → j ≤ y) ∧ (wide = false → (∀ i, inL p rows a i → i ≤ x) ∧ ∀ j, inR p rows b j → y ≤ j)

section
variable {c : Cx} {fI fD : Addr}

set_option maxHeartbeats 2000000 in
theorem fn_cores {f : Nat → Addr} (S : Fs c fI fD f) (rows : List Row) (W : Lv) (R : RowsIn rows W.length) :
    Fn c (f 17) 2 0 [.list (rows.map rowD), .list (lvs W)] (fun d => ∃ g n, d = .map g n ∧ ∀ l : Nat, l < rows.length → g (l : Nat) = upI (coreF rows W l)) := by
  refine Fn.of S.f17 (ps := ["rows", "wanted"]) (fun pm code doc vs hv => ?_) (by rfl) fun pm code doc L B n hn => ?_
  · obtain ⟨a, b, rfl⟩ := len2 hv rfl
    rfl
  have hlen := R.len
  have hn2 := R.n
  have hlv : ∀ r ∈ rows, r.2.2.length ≤ 1000 := fun r hr => by have := (R.lv r hr).1; lia
  refine Ex.cons (Ex1.ownDict (i := 2) (k := .local) (by rfl) (by rfl) ?_)
  refine Ex.cons (Ex1.for (It.range1 (by rfl) (Ev.len (by rfl) (Ev.name (d := .list (rows.map rowD)) (by rfl) ⟨_, rfl, by rw [List.length_map]; lia, _, rfl, by rw [List.length_map]; lia, by lia, ?_⟩))))
  rw [List.length_map, Int.toNat_natCast]
  refine Lp.inv (fun i st => ∃ g nn pl, st = { vars := [some (.list (rows.map rowD)), some (.list (lvs W)), Option.none, Option.none, Option.none, Option.none, Option.none, Option.none, Option.none], own := some (2, .map g nn), plain := pl, tb := n } ∧ nn ≤ 9 * i ∧
    (∀ l : Nat, l < i → g (l : Nat) = upI (coreF rows W l)) ∧ ∀ l : Nat, i ≤ l → g (l : Nat) = none) ?_ ⟨_, _, _, rfl, by lia, fun l h => by lia, fun l h => rfl⟩ ?_
  · rintro i x hx st ⟨g, nn, pl, rfl, hnn, hg1, hg2⟩
    have hi : i < rows.length := by have := (List.getElem?_eq_some_iff.mp hx).1; rwa [intsD_length] at this
    have hx' := intsD_get hx
    subst hx'
    rw [show (0 : Int) + (i : Int) = (i : Nat) by lia]
    refine ExA.name (i := 3) (k := .local) (by rfl) (by rfl) (by rfl) ?_
    refine Ex.cons (Ex1.for (It.range2 (by rfl) (Ev.add (Ev.name (d := .int (i : Nat)) (by rfl) (Ev.int ⟨_, _, rfl, rfl, Ev.add (Ev.len (by rfl) (Ev.name (d := .list (rows.map rowD)) (by rfl) ⟨_, rfl, by rw [List.length_map]; lia, Ev.int ⟨_, _, rfl, rfl, _, _, rfl, rfl, by lia, by lia, by rw [List.length_map]; lia, by lia, ?_⟩⟩))⟩)))))
    have hcnt : ((((rows.map rowD).length : Nat) : Int) + 1 - ((i : Nat) + 1)).toNat = rows.length - i := by rw [List.length_map]; lia
    rw [hcnt]
    refine Lp.inv (fun j st => ∃ g nn pl, st = { vars := [some (.list (rows.map rowD)), some (.list (lvs W)), Option.none, some (.int (i : Nat)), Option.none, Option.none, Option.none, Option.none, Option.none], own := some (2, .map g nn), plain := pl, tb := n } ∧ nn ≤ 9 * i + j ∧
      (∀ l : Nat, l < i → g (l : Nat) = upI (coreF rows W l)) ∧ (∀ l : Nat, i < l → g (l : Nat) = none) ∧ g (i : Nat) = upI ((List.range j).foldl (coreS rows W i) none)) ?_ ⟨g, nn, pl, rfl, by lia, hg1, fun l hl => hg2 l (by lia), by rw [hg2 i (Nat.le_refl _)]; rfl⟩ ?_
    · rintro j x hx st ⟨g, nn, pl, rfl, hnn, hg1, hg2, hg3⟩
      have hj : j < rows.length - i := by have := (List.getElem?_eq_some_iff.mp hx).1; rwa [intsD_length] at this
      have hx' := intsD_get hx
      subst hx'
      rw [show ((i : Nat) : Int) + 1 + (j : Int) = ((i + 1 + j : Nat) : Int) by lia]
      have hhi : i + 1 + j - 1 < rows.length := by lia
      have hstep : (List.range (j + 1)).foldl (coreS rows W i) none = coreS rows W i ((List.range j).foldl (coreS rows W i) none) j := by rw [List.range_succ, List.foldl_append]; rfl
      have R2 : RowsIn ((rows.drop i).take (i + 1 + j - i)) W.length := ⟨by rw [List.length_take, List.length_drop]; lia, fun r hr => R.lv r (List.mem_of_mem_drop (List.mem_of_mem_take hr)), hn2⟩
      refine ExA.name (i := 4) (k := .local) (by rfl) (by rfl) (by rfl) ?_
      refine Ex.cons (Ex1.ite ?_)
      refine Tst.mono (B := fun b st' => b = okQ rows W i (i + 1 + j) ∧ st' = { vars := [some (.list (rows.map rowD)), some (.list (lvs W)), Option.none, some (.int (i : Nat)), some (.int (i + 1 + j : Nat)), Option.none, Option.none, Option.none, Option.none], own := some (2, .map g nn), plain := pl, tb := n }) ?_ ?_
      · refine Tst.and3 (Tst.not (Tst.val (Ev.call1 S.f16 (by rfl) (Ev.item (Ev.name (d := .list (rows.map rowD)) (by rfl) (Ev.name (d := .int (i : Nat)) (by rfl) ⟨rowD rows[i], rowItem hi rfl hlen, 1, 0, _, fn_lawidle S.f16 _ (hlv _ (List.getElem_mem hi)), Nat.le_refl _, hn, fun r hr => ⟨_, hr, fun hq => ?_, fun hq => ⟨?_, rfl⟩⟩⟩))))))
        · refine Tst.not (Tst.val (Ev.call1 S.f16 (by rfl) (Ev.item (Ev.name (d := .list (rows.map rowD)) (by rfl) (Ev.sub (Ev.name (d := .int (i + 1 + j : Nat)) (by rfl) (Ev.int ⟨_, _, rfl, rfl, rowD rows[i + 1 + j - 1], rowItem hhi (by lia) hlen, 1, 0, _, fn_lawidle S.f16 _ (hlv _ (List.getElem_mem hhi)), Nat.le_refl _, hn, fun r hr => ⟨_, hr, fun hq2 => ?_, fun hq2 => ⟨?_, rfl⟩⟩⟩)))))))
          · refine Tst.cmp (Ev.call2 S.f15 (by rfl) (Ev.sliceRun (Ev.name (d := .list (rows.map rowD)) (by rfl) (Ev.name (d := .int (i : Nat)) (by rfl) (Ev.name (d := .int (i + 1 + j : Nat)) (by rfl) ⟨_, _, _, rfl, rfl, rfl, by lia, by lia, by rw [List.length_map]; lia, ?_⟩)))))
            have e1 : ((rows.map rowD).drop ((i : Nat) : Int).toNat).take (min ((i + 1 + j : Nat) : Int).toNat (rows.map rowD).length - ((i : Nat) : Int).toNat) = ((rows.drop i).take (i + 1 + j - i)).map rowD := by
              rw [Int.toNat_natCast, Int.toNat_natCast, List.length_map, Nat.min_eq_left (by lia), List.map_take, List.map_drop]
            rw [e1]
            refine Ev.len (by rfl) (Ev.name (d := .list (lvs W)) (by rfl) ⟨_, rfl, by unfold lvs; rw [List.length_map]; lia, 1, 0, (· = .list (lvs (joinF W.length ((rows.drop i).take (i + 1 + j - i))))), by rw [show (lvs W).length = W.length by simp [lvs]]; exact fn_joined S _ W.length R2, Nat.le_refl _, hn, fun d hd => ?_⟩)
            subst hd
            refine Ev.name (d := .list (lvs W)) (by rfl) ⟨decide (joinF W.length ((rows.drop i).take (i + 1 + j - i)) = W), CmpOk.eq (ok_lvs 6 _) (ok_lvs 6 _) ?_, ?_, rfl⟩
            · rw [decide_eq_true_iff]
              exact ⟨fun h => by rw [h], fun h => lvs_inj (D.list.inj h)⟩
            · unfold okQ
              rw [idleAt_eq hi, idleAt_eq hhi]
              simp only [Bool.not_eq_true'] at hq hq2
              rw [hq, hq2]; simp
          · unfold okQ
            rw [idleAt_eq hhi]
            simp only [Bool.not_eq_false'] at hq2
            rw [hq2]; simp
        · unfold okQ
          rw [idleAt_eq hi]
          simp only [Bool.not_eq_false'] at hq
          rw [hq]; simp
      · rintro b st' ⟨rfl, rfl⟩
        refine ⟨fun hq => ?_, fun hq => Ex.nil (Ex.nil ⟨_, Sub.mk' (v := [some (.list (rows.map rowD)), some (.list (lvs W)), Option.none, some (.int (i : Nat)), Option.none, Option.none, Option.none, Option.none, Option.none]) ⟨rfl, rfl, rfl, ⟨⟩⟩ (Nat.le_refl _), g, nn, pl, rfl, by lia, hg1, hg2, ?_⟩)⟩
        · refine Ex.cons (Ex1.ownMap (i := 2) (k := .local) (by rfl) (by rfl) (by lia) (Ev.name (d := .int (i + 1 + j : Nat)) (by rfl) (Ev.name (d := .int (i : Nat)) (by rfl) ⟨_, _, rfl, rfl, Ex.nil (Ex.nil ⟨_, Sub.mk' (v := [some (.list (rows.map rowD)), some (.list (lvs W)), Option.none, some (.int (i : Nat)), Option.none, Option.none, Option.none, Option.none, Option.none]) ⟨rfl, rfl, rfl, ⟨⟩⟩ (Nat.le_refl _), _, _, _, rfl, by lia, fun l hl => ?_, fun l hl => ?_, ?_⟩)⟩)))
          · rw [if_neg (by lia)]; exact hg1 l hl
          · rw [if_neg (by lia)]; exact hg2 l hl
          · rw [if_pos rfl, hstep]; unfold coreS; rw [if_pos hq]; rfl
        · rw [hstep]; unfold coreS; rw [if_neg (by rw [hq]; simp)]; exact hg3
    · rintro st st' ⟨g, nn, pl, rfl, hnn, hg1, hg2, hg3⟩ hsub
      rw [intsD_length] at hnn hg3
      refine ExS.sub ?_ hsub
      refine Ex.nil ⟨_, Sub.mk' (v := [some (.list (rows.map rowD)), some (.list (lvs W)), Option.none, Option.none, Option.none, Option.none, Option.none, Option.none, Option.none]) ⟨rfl, rfl, ⟨⟩⟩ (Nat.le_refl _), g, nn, pl, rfl, by lia, fun l hl => ?_, fun l hl => hg2 l (by lia)⟩
      by_cases q : l = i
      · subst q; exact hg3
      · exact hg1 l (by lia)
  · rintro st st' ⟨g, nn, pl, rfl, hnn, hg1, hg2⟩ hsub
    rw [intsD_length] at hg1
    exact ExS.sub (Ex.cons (Ex1.ret (Ev.oname (by rfl) (by rfl) ⟨⟨g, nn, rfl, hg1⟩, Nat.le_refl _⟩))) hsub

theorem sel_nats {xs ds : List D} {q : Nat → Bool} : Sel (fun x d => ∃ k : Nat, x = .int (k : Nat) ∧ q k = true ∧ d = x) (fun x => ∃ k : Nat, x = .int (k : Nat) ∧ q k = false) xs ds →
    ∃ ks : List Nat, ds = (ks.map fun (k : Nat) => (k : Int)).map .int ∧ ∀ k : Nat, k ∈ ks ↔ (.int (k : Nat)) ∈ xs ∧ q k = true := by
  intro h
  induction h with
  | nil => exact ⟨[], rfl, by simp⟩
  | take a _ ih =>
    obtain ⟨k, rfl, hq, rfl⟩ := a
    obtain ⟨ks, rfl, h2⟩ := ih
    refine ⟨k :: ks, rfl, fun k' => ?_⟩
    rw [List.mem_cons, List.mem_cons, h2 k', D.int.injEq, Int.natCast_inj]
    constructor
    · rintro (h | h)
      · subst h; exact ⟨.inl rfl, hq⟩
      · exact ⟨.inr h.1, h.2⟩
    · rintro ⟨h | h, h'⟩
      · exact .inl h
      · exact .inr ⟨h, h'⟩
  | skip a _ ih =>
    obtain ⟨k, rfl, hq⟩ := a
    obtain ⟨ks, rfl, h2⟩ := ih
    refine ⟨ks, rfl, fun k' => ?_⟩
    rw [List.mem_cons, h2 k', D.int.injEq, Int.natCast_inj]
    constructor
    · rintro h; exact ⟨.inr h.1, h.2⟩
    · rintro ⟨h | h, h'⟩
      · subst h; rw [hq] at h'; cases h'
      · exact ⟨h, h'⟩
theorem mem_intsD {a n k : Nat} : (.int (k : Nat)) ∈ intsD (a : Nat) n ↔ a ≤ k ∧ k < a + n := by
  unfold intsD
  rw [List.mem_map]
  constructor
  · rintro ⟨i, hi, e⟩
    rw [List.mem_range] at hi
    simp only [D.int.injEq] at e
    lia
  · rintro ⟨h1, h2⟩
    exact ⟨k - a, List.mem_range.mpr (by lia), by simp only [D.int.injEq]; lia⟩
end
end Mine

set_option maxRecDepth 100000
namespace Mine
open PySem PySem.W PyProof.Rows PySem.Calls

section
variable {c : Cx} {fI fD : Addr}

/-- x, y = [], e, stored in order -/
theorem Ex1.pairOwn {F : Fm} {st : St} {N : St → Prop} {T : D → Nat → Prop} {x y : Str} {px py lp ep : Pos} {kk k3 : Nat} {tp pos : Pos} {e : Expr} {i j : Nat} {k k' : NameKind}
    (hi : slotOf F.names x = some (i, k)) (hk : canStore F x k = true) (hj : slotOf F.names y = some (j, k')) (hk' : canStore F y k' = true) (hij : (i == j) = false) (hown : st.own = Option.none)
    (h : Ev c F true st e fun d st' => N { vars := ((st'.vars.set i Option.none).set j (some d)), own := some (i, .list []), plain := true, tb := st'.tb })
    (he : starEach [.List [] lp, e] F.env = (false, eval (.List [] lp) F.env) :: starEach [e] F.env := by rfl) (he2 : starEach [e] F.env = [(false, eval e F.env)] := by rfl)
    (hs : swapsWithSole [.Tuple [.Name x px, .Name y py] kk tp] (.Tuple [.List [] lp, e] k3 ep) pos.line F.env = pure false := by rfl) (hw : swappedStores [.Tuple [.Name x px, .Name y py] kk tp] (.Tuple [.List [] lp, e] k3 ep) F.env = pure none := by rfl) :
    Ex1 c F st (.Assign [.Tuple [.Name x px, .Name y py] kk tp] (.Tuple [.List [] lp, e] k3 ep) pos) N T := by
  intro A P ow m s Q E X kN kR
  refine PyProof.Rows.Assign_Tuple (PyProof.Rows.Tuple_ (PyProof.Rows.spliced_more (PyProof.Rows.List_ (PyProof.Rows.spliced_none (wpAny_newObj_type ?_ (by show ([] : List Value).toArray.size ≤ sizeLine; rw [sizeLine_eq]; simp)))) he)) hs hw
  have hfr : s.heap.get? s.heap.objs.size = none := none_at (Nat.le_refl _)
  have old : ∀ {b : Addr}, (∃ o, s.heap.get? b = some o) → s.heap.objs.size ≠ b := fun ⟨o, e⟩ q => by rw [← q, hfr] at e; cases e
  have X1 := X.more (B := fun b => b = s.heap.objs.size) (R := fun b => b = s.heap.objs.size) (tk := s.toks) (push_keep { cls := .type "list", dict := none, data := .seq ([] : List Value).toArray }) (fun b q => by subst q; exact ⟨hfr, _, Heap.get?_push_size _ rfl⟩)
    (fun b q => by subst q; exact ⟨fun z => old (X.Mex z) rfl, old X.dkex, _, Heap.get?_push_size _ rfl⟩)
  generalize hD : s.heap.objs.size = a at *
  have e0 : (s.heap.push { cls := .type "list", dict := none, data := .seq ([] : List Value).toArray }).get? a = some { cls := .type "list", dict := none, data := .seq ([] : List Value).toArray } := by rw [← hD]; exact Heap.get?_push_size _ rfl
  refine PyProof.Rows.spliced_more (h _ _ ow m _ _ E X1 fun v d n s2 p X2 iv e2 => PyProof.Rows.spliced_none (wpAny_newObj_type ?_ (by show (2 : Nat) ≤ sizeLine; rw [sizeLine_eq]; lia))) he2
  have hadk : a ≠ c.dk := old X.dkex
  have e1 : s2.heap.get? a = some _ := e2 _ _ e0 hadk
  generalize hO : ({ cls := .type "tuple", dict := none, data := .seq [Value.ref a, v].toArray } : Obj) = tob
  have X3 := X2.keep (tk := s2.toks) (push_keep tob)
  have ht : IsTup (s2.heap.push tob) s2.heap.objs.size [Value.ref a, v].toArray := ⟨_, Heap.get?_push_size _ (by rw [← hO]; rfl), by rw [← hO], _, by rw [← hO]⟩
  refine PyProof.Rows.assign_Tuple_tuple (s := { s2 with heap := s2.heap.push tob }) X.wf.room.1 ht rfl rfl fun h1 hx => ?_
  have k1 : ∀ b o, (s2.heap.push tob).get? b = some o → h1.get? b = some o := fun b o e => hx b o (Nat.ne_of_lt (Heap.lt_size e)) e
  have X4 := X3.keep (tk := s2.toks) k1
  have iv4 : Is c (fun b => (A b ∨ b = a) ∨ Mm F { st with tb := n } ow b) h1 v d := iv.ext fun b o e nn => ⟨k1 _ _ (push_keep _ _ _ e), fun q => nn (q.imp id fun q => ⟨rfl, q⟩)⟩
  show wpAny _ _ (do holding [v] (PySem.assign (.Name x px) F.env (.ref a)); assignInOrder [PySem.assign (.Name y py) F.env] [v]) _ _ _
  have aL : a ≠ F.env.locals := old (X.Mex (.inl rfl))
  have aO : ∀ y, (y, a) ∉ F.own := fun y q => old (X.Mex (.inr (.inl ⟨y, q⟩))) rfl
  have e5 : h1.get? a = some _ := k1 _ _ (push_keep _ _ _ e1)
  have X4' := X4.less (A := fun b => A b ∨ b = a) (P := P) (fun _ q => q) (fun _ q => .inl q) (.inl X.Adk)
  refine wpAny_bind (wpAny_holding (wpAny_assign_Name (store_own2 X4' (slotOf_get hi) hk (fun q => old (X.Alt _ q) rfl) (fun q => old (X.Plt _ q) rfl) aL aO (none_before (fun o e => ⟨o, X.mid.base _ o e⟩) hfr) (old X.dcex) hadk X.Adk (fun z cl hz => by
      obtain ⟨v, o, e, _⟩ := X.cells z cl hz
      exact (old ⟨o, e⟩).symm) (.list (vs := []) (ds := []) ⟨_, e5, rfl, _, rfl⟩ (fun _ => ⟨_, e5⟩) .nil) fun h2 tk2 m2 X5 step => ?_)))
  show wpAny _ _ (do holding [] (PySem.assign (.Name y py) F.env v); assignInOrder [] []) _ _ _
  have iv5 : Is c (fun b => A b ∨ Mm F { vars := st.vars.set i Option.none, own := some (i, .list []), plain := true, tb := n } a b) h2 v d := iv4.ext fun b o e nn => ⟨step b o e (fun q => nn (.inr (.inl q))) (fun y q => nn (.inr (.inr (.inl ⟨y, q⟩)))), fun q => by
    rcases q with q | q | q | ⟨_, q⟩
    · exact nn (.inl (.inl q))
    · exact nn (.inr (.inl q))
    · exact nn (.inr (.inr (.inl q)))
    · exact nn (.inl (.inr q))⟩
  refine wpAny_bind (wpAny_holding (wpAny_assign_Name (store_dat X5 (slotOf_get hj) hk' (by unfold ownAt; simpa using hij) iv5 fun h3 tk3 m3 X6 step3 => ?_)))
  refine wpAny_pure (kN _ a m3 _ p X6 ?_)
  refine fun b o q e => ?_
  have nM : ¬ Mm F st ow b := X.PM b q
  have z1 := step b o (k1 _ _ (push_keep _ _ _ (e2 b o (push_keep _ _ _ e) fun z => X.Pdk (z ▸ q)))) (fun z => nM (.inl z)) (fun y z => nM (.inr (.inl ⟨y, z⟩)))
  exact step3 b o z1 (fun z => nM (.inl z)) (fun y z => nM (.inr (.inl ⟨y, z⟩)))

theorem nat_mem {ks : List Nat} {M : Int} (h : M ∈ ks.map fun (k : Nat) => (k : Int)) : ∃ k : Nat, M = (k : Nat) ∧ k ∈ ks := by
  obtain ⟨k, hk, rfl⟩ := List.mem_map.mp h
  exact ⟨k, rfl, hk⟩

set_option maxHeartbeats 2000000 in
theorem fn_settled {f : Nat → Addr} (S : Fs c fI fD f) (rows : List Row) {n0 : Nat} (R : RowsIn rows n0) (p : Option (Int → Bool)) (wide : Bool) (a b : Nat) (hab : a < b) (hb : b ≤ rows.length) :
    Fn c (f 19) 3 0 [.list (rows.map rowD), optP (some (a, b)), endD p, .bool wide] (fun d => ∃ r, d = optP r ∧ SetP p rows wide a b r) := by
  refine Fn.of S.f19 (ps := ["rows", "core", "ends", "is_wide"]) (fun pm code doc vs hv => ?_) (by rfl) fun pm code doc L B n hn => ?_
  · obtain ⟨a, b, d, e, rfl⟩ := len4 hv rfl
    rfl
  have hlen := R.len
  have hn2 := R.n
  have l1 := left_le rows a
  have r1 := right_ge rows (rows.length - b) b
  have r2 := right_le rows (rows.length - b) b
  refine Ex.cons (Ex1.assign2 (i := 4) (k := .local) (j := 5) (k' := .local) (by rfl) (by rfl) (by rfl) (by rfl) (by rfl) (by rfl) ?_)
  refine Ev.call3 S.f18 (by rfl) (Ev.name (d := .list (rows.map rowD)) (by rfl) (Ev.item (Ev.name (d := optP (some (a, b))) (by rfl) (Ev.int ⟨.int (a : Nat), .tup (by decide) (by decide) rfl, ?_⟩))))
  refine Ev.item (Ev.name (d := optP (some (a, b))) (by rfl) (Ev.int ⟨.int (b : Nat), .tup (by decide) (by decide) rfl, 2, 0, _, fn_lawwide S.f16 S.f18 rows R a b (by lia) hb, Nat.le_refl _, hn, fun d hd => ⟨_, _, hd, ?_⟩⟩))
  refine Ex.cons (Ex1.comp1 (i := 6) (k := .local) (by rfl) (by rfl) (by rfl) (by rfl) (It.range2 (by rfl) (Ev.name (d := .int (left rows a : Nat)) (by rfl) (Ev.add (Ev.item (Ev.name (d := optP (some (a, b))) (by rfl) (Ev.int ⟨.int (a : Nat), .tup (by decide) (by decide) rfl, Ev.int ⟨_, _, rfl, rfl, _, _, rfl, rfl, by lia, by lia, by lia, by lia, fun D₀ cl C => ?_⟩⟩)))))))
  refine CpT.sel (R := fun x d => ∃ k : Nat, x = .int (k : Nat) ∧ okL p rows k = true ∧ d = x) (S := fun x => ∃ k : Nat, x = .int (k : Nat) ∧ okL p rows k = false) (b := 0) (by rw [intsD_length]; lia) (fun y hy n' hn' => ?_) fun ds hsel => ?_
  · obtain ⟨k, hk⟩ := List.getElem?_of_mem hy
    have hyk := intsD_get hk
    have hkl := (List.getElem?_eq_some_iff.mp hk).1
    rw [intsD_length] at hkl
    subst hyk
    rw [show ((left rows a : Nat) : Int) + (k : Int) = ((left rows a + k : Nat) : Int) by lia]
    have hlk : left rows a + k < rows.length := by lia
    generalize left rows a + k = q at hlk
    refine TgA.name (i := 1) (k := .local) (by rfl) (by rfl) (IfsT.one ?_)
    refine Tst.mono (B := fun t st' => t = okL p rows q ∧ Sub { vars := [Option.none, some (.int (q : Nat)), some (endD p), some (.list (rows.map rowD))], tb := n' } st') ?_ fun t st' ⟨ht, hs⟩ => ⟨fun h => ?_, fun h => ⟨⟨q, rfl, by rw [← ht, h]⟩, ?_⟩⟩
    · cases p with
      | none => exact Tst.or (Tst.cmp (Ev.name (d := .none) (by rfl) (Ev.none ⟨true, CmpOk.isNone (by simp), nofun, fun _ => ⟨rfl, Sub.refl _⟩⟩)))
      | some p =>
        refine Tst.or (Tst.cmp (Ev.name (d := .keys p) (by rfl) (Ev.none ⟨false, CmpOk.isNone (by simp), fun _ => ?_, nofun⟩)))
        refine Tst.cmp (Ev.item (Ev.item (Ev.name (d := .list (rows.map rowD)) (by rfl) (Ev.name (d := .int (q : Nat)) (by rfl) ⟨rowD rows[q], rowItem hlk rfl hlen, Ev.int ⟨.int rows[q].1, .tup (by decide) (by decide) rfl, Ev.name (d := .keys p) (by rfl) ⟨p rows[q].1, CmpOk.inKeys, ?_, Sub.refl _⟩⟩⟩))))
        unfold okL; rw [firstAt_eq hlk]
    · have hv : look [((".0" : Str), NameKind.local), (("low" : Str), .local), (("ends" : Str), .cell), (("rows" : Str), .cell)] st'.vars "low" = some (.int (q : Nat)) := by
        have := hs.vars 1 (.int (q : Nat)) rfl
        match h5 : st'.vars, this with
        | _ :: x :: _, h6 =>
          simp at h6; subst h6; rfl
        | [_], h6 => simp at h6
        | [], h6 => simp at h6
      exact Ev.name hv ⟨⟨q, rfl, by rw [← ht, h], rfl⟩, Sub.trans (b := { vars := [Option.none, some (.int (q : Nat)), some (endD p), some (.list (rows.map rowD))], tb := n' }) (Sub.mk' (v := [Option.none, Option.none, some (endD p), some (.list (rows.map rowD))]) ⟨rfl, rfl, ⟨⟩⟩ (Nat.le_refl _)) hs⟩
    · exact Sub.trans (b := { vars := [Option.none, some (.int (q : Nat)), some (endD p), some (.list (rows.map rowD))], tb := n' }) (Sub.mk' (v := [Option.none, Option.none, some (endD p), some (.list (rows.map rowD))]) ⟨rfl, rfl, ⟨⟩⟩ (Nat.le_refl _)) hs
  obtain ⟨ks, rfl, hks⟩ := sel_nats hsel
  have hL : ∀ k : Nat, k ∈ ks ↔ inL p rows a k := fun k => by
    rw [hks k, mem_intsD]
    unfold inL
    constructor
    · rintro ⟨⟨h1, h2⟩, h3⟩; exact ⟨h1, by lia, h3⟩
    · rintro ⟨h1, h2, h3⟩; exact ⟨⟨h1, by lia⟩, h3⟩
  clear hsel hks
  rw [intsD_length, Nat.mul_zero, Nat.add_zero]
  refine Ex.cons (Ex1.comp1 (i := 7) (k := .local) (by rfl) (by rfl) (by rfl) (by rfl) (It.range2 (by rfl) (Ev.item (Ev.name (d := optP (some (a, b))) (by rfl) (Ev.int ⟨.int (b : Nat), .tup (by decide) (by decide) rfl, Ev.add (Ev.name (d := .int (right rows (rows.length - b) b : Nat)) (by rfl) (Ev.int ⟨_, _, rfl, rfl, _, _, rfl, rfl, by lia, by lia, by lia, by lia, fun D₀ cl C => ?_⟩))⟩)))))
  refine CpT.sel (R := fun x d => ∃ k : Nat, x = .int (k : Nat) ∧ okR p rows k = true ∧ d = x) (S := fun x => ∃ k : Nat, x = .int (k : Nat) ∧ okR p rows k = false) (b := 0) (by rw [intsD_length]; lia) (fun y hy n' hn' => ?_) fun ds hsel => ?_
  · obtain ⟨k, hk⟩ := List.getElem?_of_mem hy
    have hyk := intsD_get hk
    have hkl := (List.getElem?_eq_some_iff.mp hk).1
    rw [intsD_length] at hkl
    subst hyk
    rw [show ((b : Nat) : Int) + (k : Int) = ((b + k : Nat) : Int) by lia]
    have hlk : b + k - 1 < rows.length := by lia
    have hpos : 1 ≤ b + k := by lia
    generalize b + k = q at hlk hpos
    refine TgA.name (i := 1) (k := .local) (by rfl) (by rfl) (IfsT.one ?_)
    refine Tst.mono (B := fun t st' => t = okR p rows q ∧ Sub { vars := [Option.none, some (.int (q : Nat)), some (endD p), some (.list (rows.map rowD))], tb := n' } st') ?_ fun t st' ⟨ht, hs⟩ => ⟨fun h => ?_, fun h => ⟨⟨q, rfl, by rw [← ht, h]⟩, ?_⟩⟩
    · cases p with
      | none => exact Tst.or (Tst.cmp (Ev.name (d := .none) (by rfl) (Ev.none ⟨true, CmpOk.isNone (by simp), nofun, fun _ => ⟨rfl, Sub.refl _⟩⟩)))
      | some p =>
        refine Tst.or (Tst.cmp (Ev.name (d := .keys p) (by rfl) (Ev.none ⟨false, CmpOk.isNone (by simp), fun _ => ?_, nofun⟩)))
        refine Tst.cmp (Ev.item (Ev.item (Ev.name (d := .list (rows.map rowD)) (by rfl) (Ev.sub (Ev.name (d := .int (q : Nat)) (by rfl) (Ev.int ⟨_, _, rfl, rfl, rowD rows[q - 1], rowItem hlk (by lia) hlen, Ev.int ⟨.int rows[q - 1].2.1, .tup (by decide) (by decide) rfl, Ev.name (d := .keys p) (by rfl) ⟨p rows[q - 1].2.1, CmpOk.inKeys, ?_, Sub.refl _⟩⟩⟩))))))
        unfold okR; rw [behindAt_eq hlk]
    · have hv : look [((".0" : Str), NameKind.local), (("high" : Str), .local), (("ends" : Str), .cell), (("rows" : Str), .cell)] st'.vars "high" = some (.int (q : Nat)) := by
        have := hs.vars 1 (.int (q : Nat)) rfl
        match h5 : st'.vars, this with
        | _ :: x :: _, h6 =>
          simp at h6; subst h6; rfl
        | [_], h6 => simp at h6
        | [], h6 => simp at h6
      exact Ev.name hv ⟨⟨q, rfl, by rw [← ht, h], rfl⟩, Sub.trans (b := { vars := [Option.none, some (.int (q : Nat)), some (endD p), some (.list (rows.map rowD))], tb := n' }) (Sub.mk' (v := [Option.none, Option.none, some (endD p), some (.list (rows.map rowD))]) ⟨rfl, rfl, ⟨⟩⟩ (Nat.le_refl _)) hs⟩
    · exact Sub.trans (b := { vars := [Option.none, some (.int (q : Nat)), some (endD p), some (.list (rows.map rowD))], tb := n' }) (Sub.mk' (v := [Option.none, Option.none, some (endD p), some (.list (rows.map rowD))]) ⟨rfl, rfl, ⟨⟩⟩ (Nat.le_refl _)) hs
  obtain ⟨js, rfl, hjs⟩ := sel_nats hsel
  have hR : ∀ k : Nat, k ∈ js ↔ inR p rows b k := fun k => by
    rw [hjs k, mem_intsD]
    unfold inR
    constructor
    · rintro ⟨⟨h1, h2⟩, h3⟩; exact ⟨h1, by lia, h3⟩
    · rintro ⟨h1, h2, h3⟩; exact ⟨⟨h1, by lia⟩, h3⟩
  clear hsel hjs
  rw [intsD_length, Nat.mul_zero, Nat.add_zero]
  refine Ex.cons (Ex1.ite (Tst.or (Tst.cmp (Ev.name (d := .list ((ks.map fun (k : Nat) => (k : Int)).map .int)) (by rfl) (Ev.nil ⟨decide (ks = []), CmpOk.eq (ok_ints 7 _) (by rfl) (by simp), fun hq => ?_, fun hq => ⟨fun _ => ?_, nofun⟩⟩)))))
  · have hne : ks ≠ [] := by simpa using hq
    refine Tst.cmp (Ev.name (d := .list ((js.map fun (k : Nat) => (k : Int)).map .int)) (by rfl) (Ev.nil ⟨decide (js = []), CmpOk.eq (ok_ints 7 _) (by rfl) (by simp), fun hq => ?_, fun hq => Ex.nil ?_⟩))
    · have hjn : js = [] := by simpa using hq
      refine Ex.cons (Ex1.ret (Ev.none ⟨⟨none, rfl, .inl ⟨rfl, .inr fun j h => ?_⟩⟩, Nat.le_refl _⟩))
      have := (hR j).mpr h
      rw [hjn] at this; cases this
    · have hjn : js ≠ [] := by simpa using hq
      refine Ex.cons (Ex1.ret (Ev.ifexp (Tst.val (Ev.name (d := .bool wide) (by rfl) ⟨wide, rfl, fun hw => ?_, fun hw => ?_⟩))))
      · refine Ev.tup2 (Ev.minB (by rfl) (Ev.name (d := .list ((ks.map fun (k : Nat) => (k : Int)).map .int)) (by rfl) ⟨_, rfl, by simpa using hne, fun M hM hmin => ?_⟩))
        obtain ⟨x, rfl, hx⟩ := nat_mem hM
        refine Ev.maxB (by rfl) (Ev.name (d := .list ((js.map fun (k : Nat) => (k : Int)).map .int)) (by rfl) ⟨_, rfl, by simpa using hjn, fun M hM hmax => ?_⟩)
        obtain ⟨y, rfl, hy⟩ := nat_mem hM
        refine ⟨⟨some (x, y), rfl, .inr ⟨x, y, rfl, (hL x).mp hx, (hR y).mp hy, fun _ => ⟨fun i hi => ?_, fun j hj => ?_⟩, fun h => (by rw [hw] at h; cases h)⟩⟩, Nat.le_refl _⟩
        · have := hmin _ (List.mem_map_of_mem (f := fun (k : Nat) => (k : Int)) ((hL i).mpr hi)); lia
        · have := hmax _ (List.mem_map_of_mem (f := fun (k : Nat) => (k : Int)) ((hR j).mpr hj)); lia
      · refine Ev.tup2 (Ev.maxB (by rfl) (Ev.name (d := .list ((ks.map fun (k : Nat) => (k : Int)).map .int)) (by rfl) ⟨_, rfl, by simpa using hne, fun M hM hmin => ?_⟩))
        obtain ⟨x, rfl, hx⟩ := nat_mem hM
        refine Ev.minB (by rfl) (Ev.name (d := .list ((js.map fun (k : Nat) => (k : Int)).map .int)) (by rfl) ⟨_, rfl, by simpa using hjn, fun M hM hmax => ?_⟩)
        obtain ⟨y, rfl, hy⟩ := nat_mem hM
        refine ⟨⟨some (x, y), rfl, .inr ⟨x, y, rfl, (hL x).mp hx, (hR y).mp hy, fun h => (by rw [hw] at h; cases h), fun _ => ⟨fun i hi => ?_, fun j hj => ?_⟩⟩⟩, Nat.le_refl _⟩
        · have := hmin _ (List.mem_map_of_mem (f := fun (k : Nat) => (k : Int)) ((hL i).mpr hi)); lia
        · have := hmax _ (List.mem_map_of_mem (f := fun (k : Nat) => (k : Int)) ((hR j).mpr hj)); lia
  · have hkn : ks = [] := by simpa using hq
    refine Ex.cons (Ex1.ret (Ev.none ⟨⟨none, rfl, .inl ⟨rfl, .inl fun j h => ?_⟩⟩, Nat.le_refl _⟩))
    have := (hL j).mpr h
    rw [hkn] at this; cases this

theorem prs_of_sel {F : List (Int × Int)} {xs ds : List D} (h : Sel (fun _ d => ∃ q ∈ F, d = prD q) (fun _ => True) xs ds) : ∃ qs : List (Int × Int), ds = qs.map prD ∧ ∀ q ∈ qs, q ∈ F := by
  induction h with
  | nil => exact ⟨[], rfl, by simp⟩
  | take a _ ih =>
    obtain ⟨q, hq, rfl⟩ := a; obtain ⟨ws, rfl, h1⟩ := ih
    exact ⟨q :: ws, rfl, fun x hx => (List.mem_cons.mp hx).elim (fun e => e ▸ hq) (h1 x)⟩
  | skip a _ ih => exact ih

set_option maxHeartbeats 2000000 in
theorem fn_matches {f : Nat → Addr} (S : Fs c fI fD f) : Fn c (f 22) 2 11 [.deck] (fun d => ∃ qs : List (Int × Int), d = .list (qs.map prD) ∧ qs.length ≤ 1000 ∧ ∀ q ∈ qs, q.2 ≤ 40) := by
  refine Fn.of S.f22 (ps := ["deck"]) (fun pm code doc vs hv => ?_) (by rfl) fun pm code doc L B n hn => ?_
  · obtain ⟨a, rfl⟩ := len1 hv rfl
    rfl
  have hn' : n + 11 ≤ 100000 := hn
  refine Ex.cons (Ex1.pairOwn (i := 1) (k := .cell) (j := 2) (k' := .local) (by rfl) (by rfl) (by rfl) (by rfl) (by decide) rfl (Ev.int ?_))
  refine Ex.cons (Ex1.for (It.range1 (by rfl) (Ev.call2 S.f12 (by rfl) (Ev.name (d := .deck) (by rfl) (Ev.int ⟨1, 1, _, fn_draw S.f12 6 (by decide), Nat.le_refl _, (by show n + 1 ≤ 100000; lia), fun d hd => ?_⟩)))))
  obtain ⟨r, rfl, h0, h1⟩ := hd
  refine ⟨_, rfl, by lia, by lia, ?_⟩
  have hcnt : r.toNat ≤ 5 := by lia
  generalize r.toNat = cnt at hcnt
  refine Lp.inv (fun i st => ∃ (F : List (Int × Int)) (place : Int), st = { vars := [some .deck, Option.none, some (.int place), Option.none, Option.none, Option.none, Option.none, Option.none], own := some (1, .list (F.map prD)), plain := true, tb := n + 1 + 2 * i } ∧
    F.length = i ∧ place ≤ 3 * i ∧ ∀ q ∈ F, q.2 ≤ 40) ?_ ⟨[], 0, rfl, rfl, by simp, by simp⟩ ?_
  · rintro i x hx st ⟨F, place, rfl, hF, hp, hq⟩
    have hi : i < cnt := by have := (List.getElem?_eq_some_iff.mp hx).1; rwa [intsD_length] at this
    have hx' := intsD_get hx
    subst hx'
    refine ExA.name (i := 3) (k := .local) (by rfl) (by rfl) (by rfl) ?_
    refine Ex.cons (Ex1.assign (i := 2) (k := .local) (by rfl) (by rfl) (by rfl) (Ev.add (Ev.name (d := .int place) (by rfl) (Ev.call2 S.f12 (by rfl) (Ev.name (d := .deck) (by rfl) (Ev.int ⟨1, 1, _, fn_draw S.f12 3 (by decide), Nat.le_refl _, (by show n + 1 + 2 * i + 1 ≤ 100000; lia), fun d hd => ?_⟩))))))
    obtain ⟨z, rfl, hz0, hz1⟩ := hd
    refine ⟨_, _, rfl, rfl, ?_⟩
    refine Ex.cons (Ex1.append (i := 1) (k := .cell) (by rfl) (by rfl) rfl (by simp; lia) (Ev.tup2 (Ev.name (d := .int (place + z)) (by rfl) (Ev.add (Ev.name (d := .int (place + z)) (by rfl) (Ev.int ⟨_, _, rfl, rfl, ?_⟩))))))
    refine Ex.cons (Ex1.assign (i := 2) (k := .local) (by rfl) (by rfl) (by rfl) (Ev.add (Ev.name (d := .int (place + z)) (by rfl) (Ev.intB (by rfl) (Ev.cmp (Ev.call2 S.f12 (by rfl) (Ev.name (d := .deck) (by rfl) (Ev.int ⟨1, 1, _, fn_draw S.f12 2 (by decide), Nat.le_refl _, (by show n + 1 + 2 * i + 1 + 1 ≤ 100000; lia), fun d hd => ?_⟩))))))))
    obtain ⟨u, rfl, hu0, hu1⟩ := hd
    refine Ev.int ⟨u == 0, CmpOk.int rfl, _, rfl, _, _, rfl, rfl, Ex.nil ⟨_, Sub.mk' (v := [some .deck, Option.none, some (.int (place + z + if (u == 0) = true then 1 else 0)), Option.none, Option.none, Option.none, Option.none, Option.none]) ⟨rfl, rfl, ⟨⟩⟩ (n := n + 1 + 2 * (i + 1)) ?_, F ++ [(place + z, place + z + 2)], place + z + (if (u == 0) = true then 1 else 0), ?_, by simp [hF], ?_, ?_⟩⟩
    · show n + 1 + 2 * i + 1 + 1 ≤ n + 1 + 2 * (i + 1)
      lia
    · simp [prD]
    · split <;> lia
    · intro q hq'
      rcases List.mem_append.mp hq' with h | h
      · exact hq q h
      · simp at h; subst h
        show place + z + 2 ≤ 40
        lia
  · rintro st st' ⟨F, place, rfl, hF, hp, hq⟩ hsub
    rw [intsD_length] at hF hsub
    refine ExS.sub ?_ hsub
    refine Ex.disown (i := 1) (d := .list (F.map prD)) rfl (by simp) ?_
    refine Ex.cons (Ex1.ret (Ev.comp1 (by rfl) (It.enum (by rfl) (Ev.name (d := .list (F.map prD)) (by rfl) ⟨_, rfl, fun D₀ cl C => ?_⟩))))
    refine CpT.sel (R := fun _ d => ∃ q ∈ F, d = prD q) (S := fun _ => True) (b := 0) (by rw [enums_length, List.length_map]; lia) (fun y hy n' hn' => ?_) fun ds hsel => ?_
    · obtain ⟨k, hk⟩ := List.getElem?_of_mem hy
      obtain ⟨y', hy', rfl⟩ := enums_get hk
      rw [List.getElem?_map] at hy'
      obtain ⟨q, hq', rfl⟩ := Option.map_eq_some_iff.mp hy'
      refine TgA.tup2 (i := 1) (k := .local) (j := 2) (k' := .local) (by rfl) (by rfl) (by rfl) (by rfl) (IfsT.one (Tst.cmp ?_))
      refine Ev.name (d := prD q) (by rfl) (Ev.sliceTo (Ev.name (d := .list (F.map prD)) (by rfl) (Ev.name (d := .int (k : Nat)) (by rfl) ⟨_, _, rfl, rfl, by lia, by rw [List.length_map]; lia, decide (q ∉ F.take k), CmpOk.notInList (ok_pr 7 _) ?_ ?_, fun h => ?_, fun h => ⟨trivial, ?_⟩⟩)))
      · intro e he
        obtain ⟨z, _, rfl⟩ := List.mem_map.mp (List.mem_of_mem_take he)
        exact ok_pr 7 z
      · rw [decide_eq_true_iff, Int.toNat_natCast, ← List.map_take]
        refine not_congr ⟨fun h => List.mem_map_of_mem h, fun h => ?_⟩
        obtain ⟨z, hz, e⟩ := List.mem_map.mp h
        rw [← prD_inj e]; exact hz
      · exact Ev.name (d := prD q) (by rfl) ⟨⟨q, List.mem_of_getElem? hq', rfl⟩, Sub.mk' (v := [Option.none, Option.none, Option.none, some (.list (F.map prD))]) ⟨rfl, ⟨⟩⟩ (Nat.le_refl _)⟩
      · exact Sub.mk' (v := [Option.none, Option.none, Option.none, some (.list (F.map prD))]) ⟨rfl, ⟨⟩⟩ (Nat.le_refl _)
    · have hl := hsel.len
      rw [enums_length, List.length_map] at hl
      obtain ⟨qs, rfl, hqs⟩ := prs_of_sel hsel
      rw [List.length_map] at hl
      refine ⟨⟨qs, rfl, by lia, fun q hq' => hq q (hqs q hq')⟩, ?_⟩
      show n + 1 + 2 * cnt + _ * 0 ≤ n + 11
      lia
end
end Mine

set_option maxRecDepth 100000
namespace Mine
open PySem

/-- from the right, and mirrored -/
theorem back_fold (size : Int) : ∀ (l : List (Int × Int)) (t : List (Int × Int)) (r : Option Int), (∀ q ∈ l, q.2 ≤ size) →
    (l.map fun q => (size - q.2, size - q.1)).foldl apartS (t.map fun q => (size - q.2, size - q.1), match r with | none => 0 | some r => size - r) =
      ((l.foldl backS (t, r)).1.map fun q => (size - q.2, size - q.1), match (l.foldl backS (t, r)).2 with | none => 0 | some r => size - r)
  | [], t, r, _ => rfl
  | q :: l, t, r, h => by
    have hq := h q (.head _)
    have ih := fun t r => back_fold size l t r fun x hx => h x (.tail _ hx)
    rw [List.map_cons, List.foldl_cons, List.foldl_cons]
    cases r with
    | none =>
      have e1 : backS (t, none) q = (t ++ [q], some q.1) := rfl
      rw [e1, ← ih (t ++ [q]) (some q.1)]
      congr 1
      simp only [apartS]
      rw [if_pos (by lia)]
      simp
    | some r =>
      have e1 : backS (t, some r) q = if q.2 ≤ r then (t ++ [q], some q.1) else (t, some r) := rfl
      rw [e1]
      by_cases c : q.2 ≤ r
      · rw [if_pos c, ← ih (t ++ [q]) (some q.1)]
        congr 1
        simp only [apartS]
        rw [if_pos (by lia)]
        simp
      · rw [if_neg c, ← ih t (some r)]
        congr 1
        simp only [apartS]
        rw [if_neg (by lia)]
theorem back_mirror (size : Int) (found : List (Int × Int)) (h : ∀ q ∈ found, q.2 ≤ size) : (mirF size (apartF (mirF size found))).reverse = backF found := by
  have h1 := back_fold size found.reverse [] none fun q hq => h q (List.mem_reverse.mp hq)
  have h2 : apartF (mirF size found) = (backF found).map fun q => (size - q.2, size - q.1) := by
    unfold apartF mirF backF
    have := congrArg Prod.fst h1
    simpa using this
  rw [h2]
  unfold mirF
  rw [← List.map_reverse, List.reverse_reverse, List.map_map]
  have : ((fun q : Int × Int => (size - q.2, size - q.1)) ∘ fun q => (size - q.2, size - q.1)) = id := by
    funext q
    obtain ⟨a, b⟩ := q
    simp only [Function.comp, id]
    congr 1 <;> lia
  rw [this, List.map_id]

/-- lengths -/
noncomputable def tl (l : Lv) : Nat := (l.map List.length).sum
theorem tl_addL : ∀ (a b : Lv), a.length = b.length → tl (addL a b) = tl a + tl b
  | [], [], _ => rfl
  | x :: a, y :: b, h => by
    have ih := tl_addL a b (by simpa using h)
    unfold tl addL at ih ⊢
    simp only [List.zipWith_cons_cons, List.map_cons, List.sum_cons, List.length_append]
    lia
  | [], _ :: _, h => by simp at h
  | _ :: _, [], h => by simp at h
theorem tl_pos : ∀ (a : Lv), isIdle a = false → 0 < tl a
  | [], h => by simp [isIdle] at h
  | x :: a, h => by
    unfold tl
    simp only [List.map_cons, List.sum_cons]
    cases x with
    | nil =>
      have := tl_pos a (by simpa [isIdle] using h)
      unfold tl at this
      lia
    | cons y x => simp only [List.length_cons]; lia
theorem addL_idle : ∀ (a b : Lv), a.length = b.length → isIdle b = true → addL a b = a
  | [], [], _, _ => rfl
  | x :: a, y :: b, h, hi => by
    simp only [isIdle, List.all_cons, Bool.and_eq_true] at hi
    have ih := addL_idle a b (by simpa using h) hi.2
    unfold addL at ih ⊢
    have : y = [] := by simpa using hi.1
    rw [List.zipWith_cons_cons, ih, this, List.append_nil]
  | [], _ :: _, h, _ => by simp at h
  | _ :: _, [], h, _ => by simp at h

theorem joinF_length (n : Nat) (l : List Row) : (joinF n l).length = n := by simp [joinF]
theorem join_step {n : Nat} {l : List Row} {k : Nat} (hk : k < l.length) (hl : ∀ r ∈ l, r.2.2.length = n) : addL (joinF n (l.take k)) l[k].2.2 = joinF n (l.take (k + 1)) := by
  have h1 : l[k].2.2.length = n := hl _ (List.getElem_mem hk)
  apply List.ext_getElem?
  intro i
  unfold addL joinF
  rw [List.getElem?_zipWith, List.getElem?_map, List.getElem?_map]
  by_cases q : i < n
  · have h2 : l.take (k + 1) = l.take k ++ [l[k]] := by rw [List.take_add_one, List.getElem?_eq_getElem hk]; rfl
    have h3 : i < l[k].2.2.length := by lia
    rw [List.getElem?_range q, List.getElem?_eq_getElem h3, h2]
    simp only [Option.map_some, List.flatMap_append, List.flatMap_cons, List.flatMap_nil, List.append_nil, List.getElem?_eq_getElem h3, Option.getD_some]
  · rw [List.getElem?_eq_none (by simp; lia)]
    rfl
theorem join_zero (n : Nat) : joinF n [] = List.replicate n [] := by
  unfold joinF
  apply List.ext_getElem?
  intro i
  rw [List.getElem?_map]
  by_cases q : i < n
  · rw [List.getElem?_range q]; simp [q]
  · rw [List.getElem?_eq_none (by simp; lia)]; simp; lia
theorem tl_mono {n : Nat} {l : List Row} (hl : ∀ r ∈ l, r.2.2.length = n) {k : Nat} : ∀ m, k ≤ m → m ≤ l.length → tl (joinF n (l.take k)) ≤ tl (joinF n (l.take m)) := by
  intro m
  induction m with
  | zero => intro h _; have : k = 0 := by lia
            rw [this]; exact Nat.le_refl _
  | succ m ih =>
    intro h hm
    by_cases q : k = m + 1
    · rw [q]; exact Nat.le_refl _
    · have h1 := ih (by lia) (by lia)
      rw [← join_step (k := m) (by lia) hl, tl_addL _ _ (by rw [joinF_length, hl _ (List.getElem_mem _)])]
      lia
theorem beg_of {n : Nat} {l : List Row} {W : Lv} {k m : Nat} (hW : W.length = n) (hkm : k ≤ m) (h : joinF n (l.take m) = W) : (begL (joinF n (l.take k)) W).all id = true := by
  rw [List.all_eq_true]
  intro b hb
  obtain ⟨i, hi, rfl⟩ := List.getElem_of_mem hb
  unfold begL at hi ⊢
  rw [List.getElem_zipWith]
  have hi' : i < n := by simp [joinF_length] at hi; lia
  have hsplit : l.take m = l.take k ++ (l.drop k).take (m - k) := by
    have : m = k + (m - k) := by lia
    rw [this, List.take_add]
    congr 2; lia
  have e1 : W[i]'(by lia) = (l.take m).flatMap fun r => (r.2.2[i]?).getD [] := by
    have : W[i]? = some ((l.take m).flatMap fun r => (r.2.2[i]?).getD []) := by
      rw [← h]; unfold joinF; rw [List.getElem?_map, List.getElem?_range hi']; rfl
    exact (List.getElem?_eq_some_iff.mp this).2
  have e2 : (joinF n (l.take k))[i]'(by rw [joinF_length]; exact hi') = (l.take k).flatMap fun r => (r.2.2[i]?).getD [] := by
    unfold joinF; simp
  simp only [id, decide_eq_true_eq]
  rw [e1, e2, hsplit, List.flatMap_append]
  simp

theorem scan_spec {W : Lv} {l : List Row} {low : Nat} (hl : ∀ r ∈ l, r.2.2.length = W.length) : ∀ (j k : Nat), k + j = l.length →
    (∀ y, scan W (l.drop k) (joinF W.length (l.take k)) (low + k) = some y → ∃ m, y = low + m ∧ k < m ∧ m ≤ l.length ∧ joinF W.length (l.take m) = W ∧ ∀ m', k < m' → m' < m → joinF W.length (l.take m') ≠ W) ∧
    (scan W (l.drop k) (joinF W.length (l.take k)) (low + k) = none → ∀ m, k < m → m ≤ l.length → joinF W.length (l.take m) ≠ W) := by
  intro j
  induction j with
  | zero =>
    intro k hk
    rw [List.drop_of_length_le (by lia)]
    exact ⟨fun y h => by simp [scan] at h, fun _ m h1 h2 => by lia⟩
  | succ j ih =>
    intro k hk
    have hkl : k < l.length := by lia
    obtain ⟨i1, i2⟩ := ih (k + 1) (by lia)
    rw [List.drop_eq_getElem_cons hkl, scan, join_step hkl hl]
    by_cases c : joinF W.length (l.take (k + 1)) = W
    · rw [if_pos c]
      refine ⟨fun y h => ⟨k + 1, ?_, by lia, by lia, c, fun m' h1 h2 => by lia⟩, fun h => by cases h⟩
      simp at h; lia
    · rw [if_neg c]
      by_cases b : (begL (joinF W.length (l.take (k + 1))) W).all id = true
      · rw [if_pos b]
        refine ⟨fun y h => ?_, fun h m h1 h2 => ?_⟩
        · obtain ⟨m, e1, e2, e3, e4, e5⟩ := i1 y h
          refine ⟨m, e1, by lia, e3, e4, fun m' h1 h2 => ?_⟩
          by_cases q : m' = k + 1
          · rw [q]; exact c
          · exact e5 m' (by lia) h2
        · by_cases q : m = k + 1
          · rw [q]; exact c
          · exact i2 h m (by lia) h2
      · rw [if_neg b]
        refine ⟨nofun, fun _ m h1 h2 e => b ?_⟩
        exact beg_of rfl (by lia) e

theorem okQ_iff {rows : List Row} {W : Lv} {low high : Nat} : okQ rows W low high = true ↔ idleAt rows low = false ∧ idleAt rows (high - 1) = false ∧ joinF W.length ((rows.drop low).take (high - low)) = W := by
  unfold okQ; simp [and_assoc]
theorem coreF_fold (rows : List Row) (W : Lv) (low : Nat) : ∀ k, (∀ h, (List.range k).foldl (coreS rows W low) none = some h → okQ rows W low h = true ∧ low < h ∧ h ≤ low + k) ∧ ((List.range k).foldl (coreS rows W low) none = none → ∀ h, low < h → h ≤ low + k → okQ rows W low h = false)
  | 0 => ⟨fun h e => by simp at e, fun _ h h1 h2 => by lia⟩
  | k + 1 => by
    obtain ⟨i1, i2⟩ := coreF_fold rows W low k
    rw [List.range_succ, List.foldl_append]
    simp only [List.foldl_cons, List.foldl_nil]
    generalize (List.range k).foldl (coreS rows W low) none = acc at i1 i2
    unfold coreS
    by_cases c : okQ rows W low (low + 1 + k) = true
    · rw [if_pos c]
      refine ⟨fun h e => ?_, fun e => by cases e⟩
      cases e
      exact ⟨c, by lia, by lia⟩
    · rw [if_neg c]
      refine ⟨fun h e => ?_, fun e h h1 h2 => ?_⟩
      · obtain ⟨a1, a2, a3⟩ := i1 h e
        exact ⟨a1, a2, by lia⟩
      · by_cases q : h = low + 1 + k
        · rw [q]; simpa using c
        · exact i2 e h h1 (by lia)
theorem okQ_uniq {rows : List Row} {W : Lv} (R : RowsIn rows W.length) {low h h' : Nat} (h1 : okQ rows W low h = true) (h2 : okQ rows W low h' = true) (hl : low < h) (hh : h < h') (hle : h' ≤ rows.length) : False := by
  obtain ⟨_, _, e1⟩ := okQ_iff.mp h1
  obtain ⟨_, i2, e2⟩ := okQ_iff.mp h2
  have hlr : ∀ r ∈ rows.drop low, r.2.2.length = W.length := fun r hr => (R.lv r (List.mem_of_mem_drop hr)).1
  have hlen : (rows.drop low).length = rows.length - low := List.length_drop
  have m1 := tl_mono hlr (k := h - low) (h' - 1 - low) (by lia) (by lia)
  have hk : h' - 1 - low < (rows.drop low).length := by lia
  have st := join_step hk hlr
  have e3 : h' - 1 - low + 1 = h' - low := by lia
  rw [e3, e2] at st
  have hi : isIdle ((rows.drop low)[h' - 1 - low]).2.2 = false := by
    rw [idleAt_eq (by lia)] at i2
    rw [List.getElem_drop]
    have : low + (h' - 1 - low) = h' - 1 := by lia
    simp only [this]
    exact i2
  have := tl_pos _ hi
  have ht := tl_addL (joinF W.length ((rows.drop low).take (h' - 1 - low))) ((rows.drop low)[h' - 1 - low]).2.2 (by rw [joinF_length, hlr _ (List.getElem_mem _)])
  rw [st] at ht
  rw [e1] at m1
  lia

theorem stretch_core {rows : List Row} {W : Lv} (R : RowsIn rows W.length) {low : Nat} (hs : low < rows.length) : stretchF rows low W = (coreF rows W low).map fun h => (low, h) := by
  have hlr : ∀ r ∈ rows.drop low, r.2.2.length = W.length := fun r hr => (R.lv r (List.mem_of_mem_drop hr)).1
  have hlen : (rows.drop low).length = rows.length - low := List.length_drop
  obtain ⟨c1, c2⟩ := coreF_fold rows W low (rows.length - low)
  change (∀ h, coreF rows W low = some h → _) at c1
  change coreF rows W low = none → _ at c2
  unfold stretchF
  change (if idleAt rows low = true then none else _) = _
  by_cases hi : idleAt rows low = true
  · rw [if_pos hi]
    cases e : coreF rows W low with
    | none => rfl
    | some h =>
      obtain ⟨a1, _⟩ := c1 h e
      have := (okQ_iff.mp a1).1
      rw [hi] at this; cases this
  · have hi' : idleAt rows low = false := by simpa using hi
    rw [if_neg hi]
    obtain ⟨s1, s2⟩ := scan_spec (low := low) hlr (rows.drop low).length 0 (by lia)
    rw [List.drop_zero, List.take_zero, join_zero, Nat.add_zero] at s1 s2
    cases e : scan W (rows.drop low) (List.replicate W.length []) low with
    | none =>
      have s3 := s2 e
      cases e2 : coreF rows W low with
      | none => rfl
      | some h =>
        obtain ⟨a1, a2, a3⟩ := c1 h e2
        exact absurd (okQ_iff.mp a1).2.2 (s3 (h - low) (by lia) (by lia))
    | some y =>
      obtain ⟨m, rfl, m1, m2, m3, m4⟩ := s1 y e
      have hok : okQ rows W low (low + m) = true := by
        refine okQ_iff.mpr ⟨hi', ?_, by rw [show low + m - low = m by lia]; exact m3⟩
        by_cases q : m = 1
        · rw [q, show low + 1 - 1 = low by lia]; exact hi'
        · have hk : m - 1 < (rows.drop low).length := by lia
          have st := join_step hk hlr
          rw [show m - 1 + 1 = m by lia, m3] at st
          cases z : idleAt rows (low + m - 1) with
          | false => rfl
          | true =>
            exfalso
            rw [idleAt_eq (by lia)] at z
            refine m4 (m - 1) (by lia) (by lia) ?_
            have hidle : isIdle ((rows.drop low)[m - 1]).2.2 = true := by
              rw [List.getElem_drop]
              have : low + (m - 1) = low + m - 1 := by lia
              simp only [this]
              exact z
            exact (addL_idle (joinF W.length ((rows.drop low).take (m - 1))) _ (by rw [joinF_length, hlr _ (List.getElem_mem hk)]) hidle).symm.trans st
      cases e2 : coreF rows W low with
      | none =>
        have := c2 e2 (low + m) (by lia) (by lia)
        rw [hok] at this; cases this
      | some h =>
        obtain ⟨a1, a2, a3⟩ := c1 h e2
        have : h = low + m := by
          rcases Nat.lt_trichotomy h (low + m) with q | q | q
          · exact (okQ_uniq R a1 hok a2 q (by lia)).elim
          · exact q
          · exact (okQ_uniq R hok a1 (by lia) q (by lia)).elim
        rw [this]
theorem core_ok {rows : List Row} {W : Lv} {low h : Nat} (hs : low < rows.length) (e : coreF rows W low = some h) : low < h ∧ h ≤ rows.length ∧ idleAt rows low = false ∧ idleAt rows (h - 1) = false := by
  obtain ⟨a1, a2, a3⟩ := (coreF_fold rows W low (rows.length - low)).1 h e
  obtain ⟨b1, b2, _⟩ := okQ_iff.mp a1
  exact ⟨a2, by lia, b1, b2⟩
end Mine

set_option maxRecDepth 100000
namespace Mine
open PySem

theorem left_idle (rows : List Row) : ∀ a i, left rows a ≤ i → i < a → idleAt rows i = true
  | 0, i, _, h => by lia
  | a + 1, i, h1, h2 => by
    rw [left] at h1
    split at h1
    · rename_i hi
      by_cases q : i = a
      · rw [q]; exact hi
      · exact left_idle rows a i h1 (by lia)
    · lia
theorem right_idle (rows : List Row) : ∀ k b i, b ≤ i → i < right rows k b → idleAt rows i = true
  | 0, b, i, h1, h2 => by rw [right] at h2; lia
  | k + 1, b, i, h1, h2 => by
    rw [right] at h2
    split at h2
    · rename_i hi
      by_cases q : i = b
      · rw [q]; exact hi
      · exact right_idle rows k (b + 1) i (by lia) h2
    · lia
theorem wholeL_spec (p : Int → Bool) (rows : List Row) : ∀ a,
    (∀ x, wholeL p rows a = some x → left rows a ≤ x ∧ x ≤ a ∧ p (firstAt rows x) = true ∧ ∀ i, x < i → i ≤ a → p (firstAt rows i) = false) ∧
    (wholeL p rows a = none → ∀ i, left rows a ≤ i → i ≤ a → p (firstAt rows i) = false)
  | 0 => by
    rw [wholeL, left]
    by_cases c : p (firstAt rows 0) = true
    · rw [if_pos c]
      refine ⟨fun x h => ?_, nofun⟩
      cases h
      exact ⟨by lia, by lia, c, fun i h1 h2 => by lia⟩
    · rw [if_neg c]
      refine ⟨nofun, fun _ i _ h2 => ?_⟩
      have : i = 0 := by lia
      rw [this]; simpa using c
  | a + 1 => by
    obtain ⟨i1, i2⟩ := wholeL_spec p rows a
    have hl := left_le rows a
    rw [wholeL, left]
    by_cases c : p (firstAt rows (a + 1)) = true
    · rw [if_pos c]
      refine ⟨fun x h => ?_, nofun⟩
      cases h
      refine ⟨?_, by lia, c, fun i h1 h2 => by lia⟩
      split <;> lia
    · rw [if_neg c]
      have c' : p (firstAt rows (a + 1)) = false := by simpa using c
      by_cases hi : idleAt rows a = true
      · rw [if_pos hi, if_pos hi]
        refine ⟨fun x h => ?_, fun h i h1 h2 => ?_⟩
        · obtain ⟨a1, a2, a3, a4⟩ := i1 x h
          refine ⟨a1, by lia, a3, fun i h1 h2 => ?_⟩
          by_cases q : i = a + 1
          · rw [q]; exact c'
          · exact a4 i h1 (by lia)
        · by_cases q : i = a + 1
          · rw [q]; exact c'
          · exact i2 h i h1 (by lia)
      · rw [if_neg hi, if_neg hi]
        refine ⟨nofun, fun _ i h1 h2 => ?_⟩
        have : i = a + 1 := by lia
        rw [this]; exact c'
theorem wholeR_spec (p : Int → Bool) (rows : List Row) : ∀ k b,
    (∀ y, wholeR p rows k b = some y → b ≤ y ∧ y ≤ right rows k b ∧ p (behindAt rows (y - 1)) = true ∧ ∀ i, b ≤ i → i < y → p (behindAt rows (i - 1)) = false) ∧
    (wholeR p rows k b = none → ∀ i, b ≤ i → i ≤ right rows k b → p (behindAt rows (i - 1)) = false)
  | 0, b => by
    rw [wholeR, right]
    by_cases c : p (behindAt rows (b - 1)) = true
    · rw [if_pos c]
      refine ⟨fun x h => ?_, nofun⟩
      cases h
      exact ⟨by lia, by lia, c, fun i h1 h2 => by lia⟩
    · rw [if_neg c]
      refine ⟨nofun, fun _ i h1 h2 => ?_⟩
      have : i = b := by lia
      rw [this]; simpa using c
  | k + 1, b => by
    obtain ⟨i1, i2⟩ := wholeR_spec p rows k (b + 1)
    have hl := right_ge rows k (b + 1)
    rw [wholeR, right]
    by_cases c : p (behindAt rows (b - 1)) = true
    · rw [if_pos c]
      refine ⟨fun x h => ?_, nofun⟩
      cases h
      refine ⟨by lia, ?_, c, fun i h1 h2 => by lia⟩
      split <;> lia
    · rw [if_neg c]
      have c' : p (behindAt rows (b - 1)) = false := by simpa using c
      by_cases hi : idleAt rows b = true
      · rw [if_pos hi, if_pos hi]
        refine ⟨fun x h => ?_, fun h i h1 h2 => ?_⟩
        · obtain ⟨a1, a2, a3, a4⟩ := i1 x h
          refine ⟨by lia, a2, a3, fun i h1 h2 => ?_⟩
          by_cases q : i = b
          · rw [q]; exact c'
          · exact a4 i (by lia) h2
        · by_cases q : i = b
          · rw [q]; exact c'
          · exact i2 h i (by lia) h2
      · rw [if_neg hi, if_neg hi]
        refine ⟨nofun, fun _ i h1 h2 => ?_⟩
        have : i = b := by lia
        rw [this]; exact c'
theorem narL_spec (p : Int → Bool) (rows : List Row) : ∀ k a,
    (∀ x, narL p rows k a = some x → a ≤ x ∧ p (firstAt rows x) = true ∧ ∀ i, a ≤ i → i < x → p (firstAt rows i) = false) ∧
    (narL p rows k a = none → ∀ c0, c0 ≤ a + k → (∀ i, a ≤ i → i < c0 → idleAt rows i = true) → ∀ i, a ≤ i → i ≤ c0 → p (firstAt rows i) = false)
  | 0, a => by
    rw [narL]
    by_cases c : p (firstAt rows a) = true
    · rw [if_pos c]
      refine ⟨fun x h => ?_, nofun⟩
      cases h
      exact ⟨by lia, c, fun i h1 h2 => by lia⟩
    · rw [if_neg c]
      refine ⟨nofun, fun _ c0 h0 _ i h1 h2 => ?_⟩
      have : i = a := by lia
      rw [this]; simpa using c
  | k + 1, a => by
    obtain ⟨i1, i2⟩ := narL_spec p rows k (a + 1)
    rw [narL]
    by_cases c : p (firstAt rows a) = true
    · rw [if_pos c]
      refine ⟨fun x h => ?_, nofun⟩
      cases h
      exact ⟨by lia, c, fun i h1 h2 => by lia⟩
    · rw [if_neg c]
      have c' : p (firstAt rows a) = false := by simpa using c
      by_cases hi : idleAt rows a = true
      · rw [if_pos hi]
        refine ⟨fun x h => ?_, fun h c0 h0 hc i h1 h2 => ?_⟩
        · obtain ⟨a1, a2, a3⟩ := i1 x h
          refine ⟨by lia, a2, fun i h1 h2 => ?_⟩
          by_cases q : i = a
          · rw [q]; exact c'
          · exact a3 i (by lia) h2
        · by_cases q : i = a
          · rw [q]; exact c'
          · exact i2 h c0 (by lia) (fun j h3 h4 => hc j (by lia) h4) i (by lia) h2
      · rw [if_neg hi]
        refine ⟨nofun, fun _ c0 h0 hc i h1 h2 => ?_⟩
        by_cases q : i = a
        · rw [q]; exact c'
        · exact absurd (hc a (Nat.le_refl _) (by lia)) hi
theorem narR_spec (p : Int → Bool) (rows : List Row) : ∀ b,
    (∀ y, narR p rows b = some y → y ≤ b ∧ p (behindAt rows (y - 1)) = true ∧ (∀ i, y < i → i ≤ b → p (behindAt rows (i - 1)) = false) ∧ ∀ c0, 1 ≤ c0 → c0 ≤ b → idleAt rows (c0 - 1) = false → c0 ≤ y) ∧
    (narR p rows b = none → ∀ c0, 1 ≤ c0 → (∀ i, c0 ≤ i → i < b → idleAt rows i = true) → ∀ i, c0 ≤ i → i ≤ b → p (behindAt rows (i - 1)) = false)
  | 0 => ⟨fun y h => by simp [narR] at h, fun _ c0 h1 _ i h2 h3 => by lia⟩
  | b + 1 => by
    obtain ⟨i1, i2⟩ := narR_spec p rows b
    rw [narR]
    by_cases c : p (behindAt rows b) = true
    · rw [if_pos c]
      refine ⟨fun x h => ?_, nofun⟩
      cases h
      exact ⟨by lia, c, fun i h1 h2 => by lia, fun c0 h1 h2 _ => h2⟩
    · rw [if_neg c]
      have c' : p (behindAt rows (b + 1 - 1)) = false := by simpa using c
      by_cases hi : idleAt rows b = true
      · rw [if_pos hi]
        refine ⟨fun x h => ?_, fun h c0 h0 hc i h1 h2 => ?_⟩
        · obtain ⟨a1, a2, a3, a4⟩ := i1 x h
          refine ⟨by lia, a2, fun i h1 h2 => ?_, fun c0 h1 h2 h3 => ?_⟩
          · by_cases q : i = b + 1
            · rw [q]; exact c'
            · exact a3 i h1 (by lia)
          · by_cases q : c0 = b + 1
            · rw [q, Nat.add_sub_cancel, hi] at h3; cases h3
            · exact a4 c0 h1 (by lia) h3
        · by_cases q : i = b + 1
          · rw [q]; exact c'
          · exact i2 h c0 h0 (fun j h3 h4 => hc j h3 (by lia)) i h1 (by lia)
      · rw [if_neg hi]
        refine ⟨nofun, fun _ c0 h0 hc i h1 h2 => ?_⟩
        by_cases q : i = b + 1
        · rw [q]; exact c'
        · exact absurd (hc b (by lia) (by lia)) hi

theorem chosen_set {p : Option (Int → Bool)} {rows : List Row} {wide : Bool} {a b : Nat} (hab : a < b) (hb : b ≤ rows.length) (hi : idleAt rows a = false) (hj : idleAt rows (b - 1) = false) :
    SetP p rows wide a b (chosenF p rows wide a b) := by
  have l1 := left_le rows a
  have r1 := right_ge rows (rows.length - b) b
  have r2 := right_le rows (rows.length - b) b
  unfold chosenF
  cases p with
  | none =>
    right
    cases wide with
    | true => exact ⟨_, _, rfl, ⟨Nat.le_refl _, l1, rfl⟩, ⟨r1, Nat.le_refl _, rfl⟩, fun _ => ⟨fun i h => h.1, fun j h => h.2.1⟩, nofun⟩
    | false => exact ⟨_, _, rfl, ⟨l1, Nat.le_refl _, rfl⟩, ⟨Nat.le_refl _, r1, rfl⟩, nofun, fun _ => ⟨fun i h => h.2.1, fun j h => h.1⟩⟩
  | some p =>
    cases wide with
    | false =>
      show SetP (some p) rows false a b (wholeF p rows a b)
      obtain ⟨w1, w2⟩ := wholeL_spec p rows a
      obtain ⟨v1, v2⟩ := wholeR_spec p rows (rows.length - b) b
      unfold wholeF
      cases e1 : wholeL p rows a with
      | none =>
        left
        refine ⟨rfl, .inl fun i ⟨h1, h2, h3⟩ => ?_⟩
        have := w2 e1 i h1 h2
        simp only [okL] at h3
        rw [this] at h3; cases h3
      | some x =>
        obtain ⟨x1, x2, x3, x4⟩ := w1 x e1
        cases e2 : wholeR p rows (rows.length - b) b with
        | none =>
          left
          refine ⟨rfl, .inr fun i ⟨h1, h2, h3⟩ => ?_⟩
          have := v2 e2 i h1 h2
          simp only [okR] at h3
          rw [this] at h3; cases h3
        | some y =>
          obtain ⟨y1, y2, y3, y4⟩ := v1 y e2
          right
          refine ⟨x, y, rfl, ⟨x1, x2, x3⟩, ⟨y1, y2, y3⟩, nofun, fun _ => ⟨fun i ⟨h1, h2, h3⟩ => ?_, fun i ⟨h1, h2, h3⟩ => ?_⟩⟩
          · by_cases q : i ≤ x
            · exact q
            · have := x4 i (by lia) h2
              simp only [okL] at h3
              rw [this] at h3; cases h3
          · by_cases q : y ≤ i
            · exact q
            · have := y4 i h1 (by lia)
              simp only [okR] at h3
              rw [this] at h3; cases h3
    | true =>
      show SetP (some p) rows true a b (narF p rows (left rows a) (right rows (rows.length - b) b))
      obtain ⟨w1, w2⟩ := narL_spec p rows (rows.length - left rows a) (left rows a)
      obtain ⟨v1, v2⟩ := narR_spec p rows (right rows (rows.length - b) b)
      unfold narF
      cases e1 : narL p rows (rows.length - left rows a) (left rows a) with
      | none =>
        left
        refine ⟨rfl, .inl fun i ⟨h1, h2, h3⟩ => ?_⟩
        have := w2 e1 a (by lia) (left_idle rows a) i h1 h2
        simp only [okL] at h3
        rw [this] at h3; cases h3
      | some x =>
        obtain ⟨x1, x3, x4⟩ := w1 x e1
        have x2 := (narL_le p rows _ _ _ e1).2 a l1 hi
        cases e2 : narR p rows (right rows (rows.length - b) b) with
        | none =>
          left
          refine ⟨rfl, .inr fun i ⟨h1, h2, h3⟩ => ?_⟩
          have := v2 e2 b (by lia) (right_idle rows _ b) i h1 h2
          simp only [okR] at h3
          rw [this] at h3; cases h3
        | some y =>
          obtain ⟨y2, y3, y4, y5⟩ := v1 y e2
          have y1 := y5 b (by lia) r1 hj
          right
          refine ⟨x, y, rfl, ⟨x1, x2, x3⟩, ⟨y1, y2, y3⟩, fun _ => ⟨fun i ⟨h1, h2, h3⟩ => ?_, fun i ⟨h1, h2, h3⟩ => ?_⟩, nofun⟩
          · by_cases q : x ≤ i
            · exact q
            · have := x4 i h1 (by lia)
              simp only [okL] at h3
              rw [this] at h3; cases h3
          · by_cases q : i ≤ y
            · exact q
            · have := y4 i (by lia) h2
              simp only [okR] at h3
              rw [this] at h3; cases h3
theorem set_det {p : Option (Int → Bool)} {rows : List Row} {wide : Bool} {a b : Nat} {r s : Option (Nat × Nat)} (h : SetP p rows wide a b r) (h' : SetP p rows wide a b s) : r = s := by
  rcases h with ⟨rfl, h⟩ | ⟨x, y, rfl, hx, hy, ht, hf⟩ <;> rcases h' with ⟨rfl, h'⟩ | ⟨x', y', rfl, hx', hy', ht', hf'⟩
  · rfl
  · rcases h with h | h
    · exact absurd hx' (h _)
    · exact absurd hy' (h _)
  · rcases h' with h | h
    · exact absurd hx (h _)
    · exact absurd hy (h _)
  · cases wide with
    | true =>
      obtain ⟨a1, a2⟩ := ht rfl
      obtain ⟨b1, b2⟩ := ht' rfl
      have := a1 _ hx'; have := a2 _ hy'; have := b1 _ hx; have := b2 _ hy
      have e1 : x = x' := by lia
      have e2 : y = y' := by lia
      rw [e1, e2]
    | false =>
      obtain ⟨a1, a2⟩ := hf rfl
      obtain ⟨b1, b2⟩ := hf' rfl
      have := a1 _ hx'; have := a2 _ hy'; have := b1 _ hx; have := b2 _ hy
      have e1 : x = x' := by lia
      have e2 : y = y' := by lia
      rw [e1, e2]

/-- what the law gathers -/
noncomputable def dueS (p : Option (Int → Bool)) (rows : List Row) (wide : Bool) (W : Lv) (found : List (Int × Int)) (s : Nat) : List (Int × Int) :=
  match chosenAt p rows wide W s with
  | none => found
  | some (x, y) => found ++ [placeF rows x y]
noncomputable def dueF (p : Option (Int → Bool)) (rows : List Row) (wide : Bool) (W : Lv) (k : Nat) : List (Int × Int) := if isIdle W then [] else (List.range k).foldl (dueS p rows wide W) []

theorem chain_get {n : Nat} {rows : List Row} (R : RowsOk n rows) {i j : Nat} (hij : i < j) (hj : j < rows.length) : behindAt rows i ≤ firstAt rows j ∧ firstAt rows i < behindAt rows i ∧ firstAt rows j < behindAt rows j := by
  have h1 := List.pairwise_iff_getElem.mp R.chain i j (by lia) hj hij
  have h2 := R.wide rows[i] (List.getElem_mem _)
  have h3 := R.wide rows[j] (List.getElem_mem _)
  rw [behindAt_eq (by lia), firstAt_eq hj, firstAt_eq (by lia), behindAt_eq hj]
  exact ⟨h1, h2, h3⟩
theorem behind_le {n : Nat} {rows : List Row} (R : RowsOk n rows) {i : Nat} (hi : i < rows.length) : behindAt rows i ≤ behindAt rows (rows.length - 1) := by
  by_cases q : i = rows.length - 1
  · rw [q]; exact Int.le_refl _
  · have := chain_get R (show i < rows.length - 1 by lia) (by lia)
    lia
theorem chosenAt_spec {p : Option (Int → Bool)} {rows : List Row} {wide : Bool} {W : Lv} (R : RowsIn rows W.length) {s x y : Nat} (hs : s < rows.length) (h : chosenAt p rows wide W s = some (x, y)) :
    idleAt rows s = false ∧ left rows s ≤ x ∧ x ≤ s ∧ 1 ≤ y ∧ y ≤ rows.length := by
  unfold chosenAt at h
  rw [stretch_core R hs] at h
  obtain ⟨⟨a, b⟩, h1, h2⟩ := Option.bind_eq_some_iff.mp h
  obtain ⟨b', h3, h4⟩ := Option.map_eq_some_iff.mp h1
  cases h4
  obtain ⟨c1, c2, c3, c4⟩ := core_ok hs h3
  have := chosen_set (p := p) (wide := wide) c1 c2 c3 c4
  change chosenF p rows wide s b = some (x, y) at h2
  rw [h2] at this
  rcases this with ⟨h5, _⟩ | ⟨x', y', h5, hx, hy, _⟩
  · cases h5
  · cases h5
    have r2 := right_le rows (rows.length - b) b
    have := hy.1; have := hy.2.1
    exact ⟨c3, hx.1, hx.2.1, by lia, by lia⟩
theorem all_due {p : Option (Int → Bool)} {rows : List Row} {wide : Bool} {W : Lv} (R : RowsOk W.length rows) : allF p rows wide W = dueF p rows wide W rows.length := by
  unfold allF dueF
  by_cases c : isIdle W = true
  · rw [if_pos c, if_pos c]
  · rw [if_neg c, if_neg c]
    have key : ∀ k, k ≤ rows.length → (List.range k).foldl (allStep p rows wide W) [] = (List.range k).foldl (dueS p rows wide W) [] ∧
        ((List.range k).foldl (dueS p rows wide W) [] = [] ∨ ∃ s x y, s < k ∧ idleAt rows s = false ∧ x ≤ s ∧ ((List.range k).foldl (dueS p rows wide W) []).getLast? = some (placeF rows x y)) := by
      intro k
      induction k with
      | zero => intro _; exact ⟨rfl, .inl rfl⟩
      | succ k ih =>
        intro hk
        obtain ⟨i1, i2⟩ := ih (by lia)
        rw [List.range_succ, List.foldl_append, List.foldl_append, i1]
        simp only [List.foldl_cons, List.foldl_nil]
        generalize (List.range k).foldl (dueS p rows wide W) [] = F at i2
        unfold allStep dueS
        cases e : chosenAt p rows wide W k with
        | none =>
          refine ⟨rfl, ?_⟩
          rcases i2 with h | ⟨s, x, y, h1, h2, h3, h4⟩
          · exact .inl h
          · exact .inr ⟨s, x, y, by lia, h2, h3, h4⟩
        | some q =>
          obtain ⟨x, y⟩ := q
          obtain ⟨a1, a2, a3, a4, a5⟩ := chosenAt_spec R.inn (by lia) e
          have hne : F = [] ∨ F.getLast? ≠ some (placeF rows x y) := by
            rcases i2 with h | ⟨s, x', y', h1, h2, h3, h4⟩
            · exact .inl h
            · refine .inr fun h5 => ?_
              rw [h4] at h5
              have h6 : firstAt rows x' = firstAt rows x := congrArg Prod.fst (Option.some.inj h5)
              have h7 : s < left rows k := by
                by_cases q : left rows k ≤ s
                · have := left_idle rows k s q h1
                  rw [h2] at this; cases this
                · lia
              have := chain_get R (show x' < x by lia) (by lia)
              lia
          refine ⟨if_pos hne, .inr ⟨k, x, y, by lia, a1, a3, by simp⟩⟩
    exact (key _ (Nat.le_refl _)).1
theorem due_le {p : Option (Int → Bool)} {rows : List Row} {wide : Bool} {W : Lv} (R : RowsOk W.length rows) : ∀ k, k ≤ rows.length → (dueF p rows wide W k).length ≤ k ∧ ∀ q ∈ dueF p rows wide W k, q.2 ≤ behindAt rows (rows.length - 1) := by
  intro k
  unfold dueF
  by_cases c : isIdle W = true
  · rw [if_pos c]; exact fun _ => ⟨by simp, by simp⟩
  · rw [if_neg c]
    induction k with
    | zero => intro _; exact ⟨by simp, by simp⟩
    | succ k ih =>
      intro hk
      obtain ⟨i1, i2⟩ := ih (by lia)
      rw [List.range_succ, List.foldl_append]
      simp only [List.foldl_cons, List.foldl_nil]
      generalize (List.range k).foldl (dueS p rows wide W) [] = F at i1 i2
      unfold dueS
      cases e : chosenAt p rows wide W k with
      | none => exact ⟨by show F.length ≤ _; lia, i2⟩
      | some q =>
        obtain ⟨x, y⟩ := q
        obtain ⟨a1, a2, a3, a4, a5⟩ := chosenAt_spec R.inn (by lia) e
        refine ⟨by show (F ++ _).length ≤ _; rw [List.length_append, List.length_singleton]; lia, fun q hq => ?_⟩
        rcases List.mem_append.mp hq with h | h
        · exact i2 q h
        · rw [List.mem_singleton.mp h]
          exact behind_le R (by lia)
theorem due_step {p : Option (Int → Bool)} {rows : List Row} {wide : Bool} {W : Lv} (k : Nat) (h : isIdle W = false) : dueF p rows wide W (k + 1) = dueS p rows wide W (dueF p rows wide W k) k := by
  unfold dueF
  rw [if_neg (by simp [h]), if_neg (by simp [h]), List.range_succ, List.foldl_append]
  rfl
end Mine

set_option maxRecDepth 100000
namespace Mine
open PySem PySem.W PyProof.Rows PySem.Calls

theorem list_no_keys : typeLookup (.type "list") "keys" = pure none := by rw [typeLookup_type, builtinLookup_eq_fast]; kernel_rfl
theorem plain_du : plainId "dict.update.loop" = true := by decide +kernel
theorem entry_du : entryFor table "dict.update.loop" = some Builtin.«dict.update.loop» := entryFor_of_tree (by kernel_rfl)

section
variable {c : Cx} {B : Around} {E : Value → Shared → Prop} {s : Shared}

theorem getAttrQ_list {a : Addr} {xs : Array Value} {k : Nat} {Q : Option Value → Shared → Prop} (hx : s.heap.get? a = some { cls := .type "list", dict := none, data := .seq xs k, slots := #[] }) (hA : B.handled = none)
    (hQ : ∀ h' tk, (∀ b o, s.heap.get? b = some o → h'.get? b = some o) → Q none { s with heap := h', toks := tk }) : wpAny (model c.prog c.w) B (getAttr? (.ref a) "keys") Q E s := by
  obtain ⟨hp, g, d, tk, os⟩ := s
  have hT : ∀ tk', (⟨hp, g, d, tk', os⟩ : Shared).TypeIs (.ref a) "list" := fun _ => ⟨_, hx, rfl⟩
  have f1 := sub_AttributeError
  have f3 := F.slot_list_getattribute.lookup
  have f4 := F.slot_list_getattribute.bind (.ref a)
  have f5 := am_list_getattr_none
  unfold getAttr? getAttrBy?
  refine wpAny_bind (wpAny_mkText ?_)
  refine wpAny_bind (wpAny_attempt ?_)
  unfold getAttrBy
  repeat (any_goals (first | assumption | exact hT _ | ((with_reducible show wpAny _ _ (call (Value.builtin "list.__getattribute__") _ _) _ _ _); refine call_meets F.slot_list_getattribute (hT _) am_entry_list_getattribute (F.args_list_getattribute_2 _ _) (meets_getattribute_miss_list a xs k #[] "keys" _ list_no_keys (by decide +kernel)) ⟨hx, hA, fun h' tk' e hx' => ?_⟩) | wp_step))
  obtain ⟨t', u', he⟩ := hx'.there
  show wpAny _ _ (getattributeRaised _ _ _ _ _ _ _) _ _ _
  unfold getattributeRaised
  have hTe : ∀ tk'', (⟨h', g, d, tk'', os⟩ : Shared).TypeIs (.ref e) "AttributeError" := fun _ => ⟨_, he, rfl⟩
  repeat (any_goals (first | assumption | exact hTe _ | wp_step))
  exact hQ _ _ hx'.of.keeps

/-- pairs of an int and True -/
noncomputable def pairT (k : Int) : D := .tup [.int k, .bool true]

theorem dict_loop {N : Addr → Prop} {d I l : Addr} {ws : List Value} {ks : List Int} {R : Result → Shared → Prop} (hh : B.handled = none) (hdI : d ≠ I) (hdl : d ≠ l) (hlI : l ≠ I) (hN : N I) (hNd : N d) (hsz : ks.length ≤ 1000000) :
    ∀ (n i : Nat) (s : Shared) (f : Int → Option Value), i + n = ks.length → s.heap.IsListIter I l i → s.heap.IsList l ws.toArray → IsAll c N s.heap ws (ks.map pairT) → s.heap.IntMap d f → s.heap.DictLe d i → (∀ k, (f k).isSome = true ↔ k ∈ ks.take i) →
    (∀ h' tk f', h'.IntMap d f' → (∀ k, (f' k).isSome = true ↔ k ∈ ks) → (∀ b o, b ≠ d → b ≠ I → s.heap.get? b = some o → h'.get? b = some o) → R (.ok (.ret .none)) { s with heap := h', toks := tk }) →
    codeAny (model c.prog c.w) B (.builtin "dict.update.loop" ⟨[.ref d, .ref I, rawInt (i : Nat), .none], []⟩) R s := by
  intro n
  induction n with
  | zero =>
    intro i s f hi hit hl hall hm hle hf hR
    have hlen := hall.length
    rw [List.length_map] at hlen
    refine codeAny_builtin entry_du ?_
    rw [Around.under_plainId plain_du _]
    show wpAny _ B.in1 (pyNext (.ref I) >>= _) _ _ s
    refine wpAny_bind (wpAny_pyNext_list_end hh hit hl (by simp; lia) fun h' he => ?_)
    refine wpAny_bind (m := Builtin.Dict.addKeywords d []) (wpAny_pure ?_)
    refine wpAny_pure ?_
    refine hR h' s.toks f ?_ (fun k => ?_) fun b o _ hb e => he b o hb e
    · obtain ⟨o, es, ep, e, r⟩ := hm
      exact ⟨o, es, ep, he _ _ hdI e, r⟩
    · rw [hf k, List.take_of_length_le (by lia)]
  | succ n ih =>
    intro i s f hi hit hl hall hm hle hf hR
    have hlen := hall.length
    rw [List.length_map] at hlen
    have hik : i < ks.length := by lia
    obtain ⟨v, hv, iv⟩ := hall.get (k := i) (by rw [List.length_map]; exact hik)
    rw [List.getElem_map] at iv
    obtain ⟨t, vs, rfl, ht, hnt, r⟩ := iv.invTup
    obtain ⟨v1, v2, rfl, j1, j2⟩ := r.inv2
    obtain ⟨tk1, rfl⟩ := j1.invInt
    refine codeAny_builtin entry_du ?_
    rw [Around.under_plainId plain_du _]
    show wpAny _ B.in1 (pyNext (.ref I) >>= _) _ _ s
    refine wpAny_bind (wpAny_pyNext_list_item hit hl (x := .ref t) (by simpa using hv) fun h1 hit1 hs1 => ?_)
    have htI : t ≠ I := fun q => hnt (q ▸ hN)
    have htd : t ≠ d := fun q => hnt (q ▸ hNd)
    obtain ⟨ot, hot, hct, kt, hdt⟩ := ht
    have hot1 : h1.get? t = some ot := (hs1.2 t htI).trans hot
    show wpAny _ B.in1 (holding _ _ >>= _) _ _ _
    refine wpAny_bind (wpAny_holding (wpAny_bind (wpAny_tryCatch ?_)))
    unfold Builtin.Dict.pairItems
    refine wpAny_bind (wpAny_typeOf (s := { s with heap := h1 }) ⟨ot, hot1, hct⟩ ?_)
    rw [if_pos (by decide)]
    refine wpAny_bind (m := seqItems? (.ref t)) ?_
    unfold seqItems?
    refine wpAny_bind (wpAny_load (s := { s with heap := h1 }) hot1 ?_)
    rw [hdt]
    refine wpAny_pure (wpAny_pure ?_)
    show wpAny _ B.in1 (holding _ (dictSet d (.int ks[i] tk1) v2)) _ _ _
    have hm1 : h1.IntMap d f := by
      obtain ⟨o, es, ep, e, r⟩ := hm
      exact ⟨o, es, ep, (hs1.2 d hdI).trans e, r⟩
    have hle1 : h1.DictLe d i := by
      obtain ⟨o, es, ep, e, r⟩ := hm
      exact hle.of_same e ((hs1.2 d hdI).trans e)
    refine wpAny_holding (wpAny_dictSet_int_le (s := { s with heap := h1 }) (n := i) hm1 hle1 (by rw [sizeLine_eq]; lia) fun h2 hm2 hle2 hs2 => ?_)
    refine wpAny_pure ⟨plainId_quiet plain_du _, ?_⟩
    have e1 : rawInt ((i : Nat) : Int) = .int ((i : Nat) : Int) 0 := rfl
    have k2 : ∀ b o, b ≠ d → b ≠ I → s.heap.get? b = some o → h2.get? b = some o := fun b o q1 q2 e => (hs2.2 b q1).trans ((hs1.2 b q2).trans e)
    have hnext := ih (i + 1) { s with heap := h2, toks := s.toks + 1 } (fun x => if x = ks[i] then some v2 else f x) (by lia) (by
        obtain ⟨o, e, r⟩ := hit1
        exact ⟨o, (hs2.2 I (Ne.symm hdI)).trans e, r⟩) (hl.at fun o e => k2 _ _ (Ne.symm hdl) hlI e) (hall.ext fun a o e nn => ⟨k2 a o (fun q => nn (q ▸ hNd)) (fun q => nn (q ▸ hN)) e, nn⟩) hm2 hle2 (fun k => by
        rw [List.take_add_one, List.getElem?_eq_getElem hik]
        simp only [Option.toList_some, List.mem_append, List.mem_singleton]
        by_cases q : k = ks[i]
        · rw [if_pos q]; simp [q]
        · rw [if_neg q, hf k]; simp [q]) (fun h' tk f' a1 a2 a3 => hR h' tk f' a1 a2 fun b o q1 q2 e => a3 b o q1 q2 (k2 b o q1 q2 e))
    exact hnext

theorem call_dict_pairs {N : Addr → Prop} {l : Addr} {ws : List Value} {ks : List Int} {k : Nat} {Q : Value → Shared → Prop} (hh : B.handled = none) (hl : s.heap.get? l = some { cls := .type "list", dict := none, data := .seq ws.toArray k, slots := #[] })
    (hall : IsAll c N s.heap ws (ks.map pairT)) (hsz : ks.length ≤ 1000000)
    (h : ∀ d h' tk f', s.heap.get? d = none → h'.IntMap d f' → (∀ k, (f' k).isSome = true ↔ k ∈ ks) → (∀ b o, s.heap.get? b = some o → h'.get? b = some o) → Q (.ref d) { s with heap := h', toks := tk }) :
    wpAny (model c.prog c.w) B (call (.type "dict") [.ref l]) Q E s := by
  refine callType_codes (Q₁ := fun obj s₁ => obj = .ref s.heap.objs.size ∧ s₁ = { s with heap := s.heap.push { cls := .type "dict", data := .dict #[] } }) F.kt_called_dict (F.kt_typeCall_dict_1 _) F.entry_dict_init (kt_code_dict_new _ ⟨rfl, rfl⟩) ?_
  rintro obj s₁ ⟨rfl, rfl⟩
  have hfr : s.heap.get? s.heap.objs.size = none := none_at (Nat.le_refl _)
  have hnew : (s.heap.push { cls := .type "dict", data := .dict #[] }).IntMap s.heap.objs.size (fun _ => none) := Heap.IntMap.new _
  have hle : (s.heap.push { cls := .type "dict", data := .dict #[] }).DictLe s.heap.objs.size 0 := Heap.DictLe.new _
  generalize hD : s.heap.objs.size = d at hfr hnew hle ⊢
  have k1 : ∀ b o, s.heap.get? b = some o → (s.heap.push { cls := .type "dict", data := .dict #[] }).get? b = some o := push_keep _
  generalize s.heap.push { cls := .type "dict", data := .dict #[] } = h1 at hnew hle k1 ⊢
  have old : ∀ {b}, (∃ o, s.heap.get? b = some o) → b ≠ d := fun ⟨o, e⟩ q => by rw [q, hfr] at e; cases e
  refine ⟨hnew.typeIs, F.args_dict_init_2 _ _, ?_⟩
  unfold Builtin.«dict.__init__»
  refine wpAny_bind ?_
  unfold Builtin.Dict.selfAndRest
  refine wpAny_bind (wpAny_notOrdered_dict (s := { s with heap := h1 }) hnew.typeIs ?_)
  show wpAny _ _ (pure (d, [Value.ref l])) _ _ _
  refine wpAny_pure ?_
  show wpAny _ _ (Builtin.Dict.updateFrom "dict.__init__" d (.ref l) [] .none) _ _ _
  unfold Builtin.Dict.updateFrom
  refine wpAny_bind (wpAny_typeOf (s := { s with heap := h1 }) (T := "list") ⟨_, k1 _ _ hl, rfl⟩ ?_)
  rw [if_pos (by decide)]
  refine wpAny_bind (getAttrQ_list (s := { s with heap := h1 }) (k1 _ _ hl) hh fun h2 tk2 k2 => ?_)
  simp only [Option.isNone_none, if_true]
  have hl2 : h2.IsList l ws.toArray := ⟨_, k2 _ _ (k1 _ _ hl), rfl, _, rfl⟩
  refine wpAny_bind (wpAny_rule (wpAny_bind (wpAny_pyIter_list (s := { s with heap := h2, toks := tk2 }) hl2 ?_)))
  have k3 : ∀ b o, h2.get? b = some o → (h2.push { cls := .type "list_iterator", data := .fields #[.ref l, .int 0 0] }).get? b = some o := push_keep _
  have hit : (h2.push { cls := .type "list_iterator", data := .fields #[.ref l, .int 0 0] }).IsListIter h2.objs.size l 0 := ⟨_, Heap.get?_push_size _ rfl, rfl, rfl⟩
  have hfr2 : h2.get? h2.objs.size = none := none_at (Nat.le_refl _)
  generalize hI : h2.objs.size = I at hit hfr2 ⊢
  generalize h2.push { cls := .type "list_iterator", data := .fields #[.ref l, .int 0 0] } = h3 at hit k3 ⊢
  have old2 : ∀ {b}, (∃ o, h2.get? b = some o) → b ≠ I := fun ⟨o, e⟩ q => by rw [q, hfr2] at e; cases e
  refine wpAny_pure ⟨plainId_quiet plain_du _, ?_⟩
  have hkm : ∀ {a f}, h1.IntMap a f → h3.IntMap a f := fun ⟨o, es, ep, e, r⟩ => ⟨o, es, ep, k3 _ _ (k2 _ _ e), r⟩
  obtain ⟨od, _, _, ed, _⟩ := id hnew
  refine dict_loop (B := B.in1) (N := fun a => N a ∨ a = d ∨ a = I) (ws := ws) (ks := ks) (l := l) (f := fun _ => none) hh (old2 ⟨_, k2 _ _ ed⟩) (Ne.symm (old ⟨_, hl⟩)) (old2 ⟨_, k2 _ _ (k1 _ _ hl)⟩) (.inr (.inr rfl)) (.inr (.inl rfl)) hsz ks.length 0 { s with heap := h3, toks := tk2 } (by lia) hit (hl2.at fun o e => k3 _ _ e)
    (hall.ext fun a o e nn => ⟨k3 _ _ (k2 _ _ (k1 _ _ e)), fun q => q.elim nn fun q => q.elim (old ⟨_, e⟩) (old2 ⟨_, k2 _ _ (k1 _ _ e)⟩)⟩) (hkm hnew) (hle.of_same ed (k3 _ _ (k2 _ _ ed))) (fun k => by simp) fun h' tk f' a1 a2 a3 => ?_
  refine ⟨rfl, h d h' tk f' hfr a1 a2 fun b o e => a3 b o (old ⟨_, e⟩) (old2 ⟨_, k2 _ _ (k1 _ _ e)⟩) (k3 _ _ (k2 _ _ (k1 _ _ e)))⟩
end

section
variable {c : Cx} {F : Fm} {l : Bool} {st : St} {Post : D → St → Prop}

/-- dict([.. for .. in .. for .. in .. if ..]) -/
theorem Ev.dictComp2 {elt tgt iter t2 i2 : Expr} {ifs f2 : List Expr} {scope : Scope} {pos p cp : Pos} (hx : F.names.lookup (Str.ofString "dict") = some .globalImplicit)
    (hok : compOk F.names st.vars scope.names = true)
    (h : It c F st tgt iter false fun xs st' => ∀ D₀ cl C, CpT c (Fc F scope cl C) D₀ tgt ifs (Mine.gen2 (.ListComp elt [⟨tgt, iter, ifs, 0⟩, ⟨t2, i2, f2, 0⟩] scope pos) D₀ i2 (Fc F scope cl C).env) (fun ds st2 => ∃ ks : List Int, ds = ks.map pairT ∧ ks.length ≤ 1000000 ∧ Post (.keys fun k => decide (k ∈ ks)) { st' with tb := st2.tb }) xs [] { vars := compV F.names st.vars scope.names, tb := st'.tb })
    (hkind : scope.kind = .function := by rfl) (hnd : (scope.names.map (·.1)).Nodup := by decide) (hs : ∀ x, foldedSetIterable iter F.env x = pure x := by intro _; rfl)
    (he : starEach [.ListComp elt [⟨tgt, iter, ifs, 0⟩, ⟨t2, i2, f2, 0⟩] scope pos] F.env = [(false, eval (.ListComp elt [⟨tgt, iter, ifs, 0⟩, ⟨t2, i2, f2, 0⟩] scope pos) F.env)] := by rfl) :
    Ev c F l st (.Call (.Name (Str.ofString "dict") p) [.ListComp elt [⟨tgt, iter, ifs, 0⟩, ⟨t2, i2, f2, 0⟩] scope pos] [] cp) Post := by
  intro A P ow m s Q E X k
  refine PyProof.Rows.Call_ (bname X hx (c.miss _ (by decide)) PyProof.Rows.boot_dict (by decide) ?_ (by decide))
  refine PyProof.Rows.callWith_type1 (spliced_more ?_ he) he rfl
  rw [eval_ListComp]
  refine comp_walk (l := false) (use := Option.none) (inner := fun D env => Mine.gen2 (.ListComp elt [⟨tgt, iter, ifs, 0⟩, ⟨t2, i2, f2, 0⟩] scope pos) D i2 env) (Post := fun d st' => ∃ ks : List Int, d = .list (ks.map pairT) ∧ ks.length ≤ 1000000 ∧ Post (.keys fun k => decide (k ∈ ks)) st') (fun _ _ _ => turn2 _ _ _) X hok hkind hnd hs (It.mono h fun xs st' p D₀ cl C => ?_) fun D₀ C ds n s' L p => ?_
  · have := p D₀ cl C
    simpa only [D.list.injEq] using this
  obtain ⟨ks, hds, hsz, p⟩ := p
  cases hds
  obtain ⟨m', hm⟩ := L.ns
  refine ⟨m', hm, fun h' hs' => ?_⟩
  obtain ⟨X', _, ex⟩ := L.done X hs'
  obtain ⟨ws, ⟨nn, hpl⟩, hall⟩ := L.pl
  refine spliced_none ?_
  refine call_dict_pairs (s := { s' with heap := h' }) X.wf.room.1 (hs'.extBut _ _ L.ne hpl) (N := fun a => Av F false A st ow a ∨ a = D₀ ∨ a = C) (hall.ext fun a o e q => ⟨hs'.extBut a o (fun z => q (.inr (.inr z))) e, q⟩) hsz fun d h2 tk f' hd hmap hf hk => ?_
  have X2 := X'.keep (tk := tk) hk
  refine k (.ref d) _ n _ p X2 (.keys hmap ?_ fun z => ?_) (ex.trans (.of_keep hk))
  · intro q
    have q' : Av F l A st ow d := q
    have : ∃ o, h'.get? d = some o := Or.elim q' (X'.Alt d) fun q => X'.Mex q.2
    obtain ⟨o, e⟩ := this
    rw [hd] at e; cases e
  · have := hf z
    by_cases q : z ∈ ks
    · rw [this.mpr q]; simp [q]
    · have : (f' z).isSome = false := by
        cases e : (f' z).isSome with
        | false => rfl
        | true => exact absurd (this.mp e) q
      rw [this]; simp [q]
end
end Mine

set_option maxRecDepth 100000
namespace Mine
open PySem PySem.W PyProof.Rows PySem.Calls

structure InitAt (c : Cx) (fI : Addr) : Prop where
  at_ : ∃ o fd, c.H0.get? fI = some o ∧ o.data = .func fd ∧ c.H0.CodeRec fd.code fd.qualname ∧ fd.body = .stmts (sBody (nthS (fB 1) 0)) ∧ fd.closure = [] ∧ fd.globals = mainGlobals ∧ fd.builtins = builtinsNs ∧ fd.scope = sScope (nthS (fB 1) 0) ∧ fd.params = sArgs (nthS (fB 1) 0) ∧ fd.defaults = .none ∧ fd.kwdefaults = .none
  keep : keepIn c.K (.ref c.C) = true
  mg : c.mg "SearchPiece" = some (.ref c.C)

section
variable {c : Cx} {B : Around} {E : Value → Shared → Prop} {s : Shared} {fI fD : Addr}

theorem call_piece (K : ClsAt c fI fD) (H : InitAt c fI) {i j : Int} {ti tj : Tok} {v3 : Value} {n : Nat} {Q : Value → Shared → Prop} (r : Room 1 B) (M : Mid c n s) (h3 : handedIn v3 = true)
    (k : ∀ x dx h' tk es n', (∀ b o, s.heap.get? b = some o → h'.get? b = some o) → s.heap.get? x = none → s.heap.get? dx = none → h'.get? x = some (instObj c.C dx) → h'.get? dx = some (dictOf es n') →
      getL "first" es = some (some (.int i ti)) → getL "behind" es = some (some (.int j tj)) → getL "levels" es = some (some v3) → getL "is_idle" es = some none → Q (.ref x) { s with heap := h', toks := tk }) :
    wpAny (model c.prog c.w) B (call (.ref c.C) [.int i ti, .int j tj, v3]) Q E s := by
  obtain ⟨o, fd, ho, hd, hcd, e1, e2, e3, e4, e5, e6, e7, e8⟩ := H.at_
  have hK0 : c.K.In s.heap := c.KX.keeps M.base
  have hlim : s.heap.NoLimit := c.nolimit.keeps M.base
  have hcd' := hcd.keeps M.base
  have ho' := M.base _ _ ho
  obtain ⟨hh, g, d, t, os⟩ := s
  dsimp only at hK0 hlim hcd' ho'
  have kk : ∀ b o, hh.get? b = some o → ((hh.push emptyDict).push (instObj c.C hh.objs.size)).get? b = some o := fun b o e => Heap.get?_push_of_some _ (Heap.get?_push_of_some _ e)
  refine wpAny_call (make_core (makes_of hK0 K.makes) (looks_findIn hK0 K.init) (fun self => bind_fn hK0 self K.initF) (.inl rfl) ?_)
  have gx : ((hh.push emptyDict).push (instObj c.C hh.objs.size)).get? (hh.objs.size + 1) = some (instObj c.C hh.objs.size) := by
    have := Heap.get?_push_size (hh.push emptyDict) (o := instObj c.C hh.objs.size) rfl
    rwa [Heap.size_push] at this
  have gd : ((hh.push emptyDict).push (instObj c.C hh.objs.size)).get? hh.objs.size = some (dictOf [] 0) := Heap.get?_push_of_some _ (Heap.get?_push_size _ rfl)
  have nd : hh.get? hh.objs.size = none := none_at (Nat.le_refl _)
  have nx : hh.get? (hh.objs.size + 1) = none := none_at (Nat.le_succ _)
  have hsz : ((hh.push emptyDict).push (instObj c.C hh.objs.size)).objs.size = hh.objs.size + 2 := by rw [Heap.size_push, Heap.size_push]
  generalize (hh.push emptyDict).push (instObj c.C hh.objs.size) = h2 at kk gx gd hsz ⊢
  have hnames : fd.scope.names = [(("self" : Str), NameKind.local), (("first" : Str), .local), (("behind" : Str), .local), (("levels" : Str), .local)] := by rw [e5]; rfl
  have hk : fd.scope.kind = .function := by rw [e5]; rfl
  refine codeAny_call_cells (s := ⟨h2, g, d, t, os⟩) (binds := [(("self" : Str), .ref (hh.objs.size + 1)), (("first" : Str), .int i ti), (("behind" : Str), .int j tj), (("levels" : Str), v3)]) ?_ (kk _ _ ho') hd (hlim.keeps kk) (hcd'.keeps kk) e1 ?_ e2 ?_ ?_ (by rw [e5]; rfl) (by rw [e5]; rfl) hk
  · have := r.2.1
    show B.depth + 1 < recursionLimit
    unfold recursionLimit; lia
  · cases fd
    simp only at e5 e6 e7 e8
    subst e5 e6 e7 e8
    rfl
  · intro x hx
    rw [hnames]
    refine .inl ?_
    simp only [List.mem_cons, List.mem_singleton, List.not_mem_nil, or_false] at hx
    rcases hx with rfl | rfl | rfl | rfl <;> rfl
  intro s₁ X
  have hL : (callEnvC fd h2.objs.size fI).locals = h2.objs.size := rfl
  have hkf : ∀ y, (callEnvC fd h2.objs.size fI).kindOf y = fd.scope.names.lookup y := fun _ => rfl
  obtain ⟨⟨h₁, tk₁, rfl⟩, hns, hkeep, _⟩ := id X.toInCall
  have hbs : (([(("self" : Str), Value.ref (hh.objs.size + 1)), (("first" : Str), .int i ti), (("behind" : Str), .int j tj), (("levels" : Str), v3)] : List (Str × Value)).map (·.1)).Nodup := by
    show ([("self" : Str), ("first" : Str), ("behind" : Str), ("levels" : Str)] : List Str).Nodup
    decide
  generalize hm : bindL (callEnvC fd h2.objs.size fI).kindOf [(("self" : Str), Value.ref (hh.objs.size + 1)), (("first" : Str), .int i ti), (("behind" : Str), .int j tj), (("levels" : Str), v3)] (fun _ => none) = mm at hns
  have m0 : mm "self" = some (.ref (hh.objs.size + 1)) := by rw [← hm]; exact bindL_get _ _ _ _ hbs rfl (by rw [hkf, hnames]; rfl)
  have m1 : mm "first" = some (.int i ti) := by rw [← hm]; exact bindL_get _ _ _ _ hbs rfl (by rw [hkf, hnames]; rfl)
  have m2 : mm "behind" = some (.int j tj) := by rw [← hm]; exact bindL_get _ _ _ _ hbs rfl (by rw [hkf, hnames]; rfl)
  have m3 : mm "levels" = some v3 := by rw [← hm]; exact bindL_get _ _ _ _ hbs rfl (by rw [hkf, hnames]; rfl)
  have Fr0 : Fr hh h2.objs.size h₁ mm := ⟨hns, fun b o e => hkeep b o (kk b o e), by lia⟩
  have N0 : News hh h2.objs.size h₁ [(hh.objs.size + 1, instObj c.C hh.objs.size), (hh.objs.size, dictOf [] 0)] := by
    intro p hp
    rcases List.mem_cons.mp hp with rfl | hp
    · exact ⟨hkeep _ _ gx, by show hh.objs.size + 1 ≠ h2.objs.size; lia, nx⟩
    · simp at hp; subst hp
      exact ⟨hkeep _ _ gd, by show hh.objs.size ≠ h2.objs.size; lia, nd⟩
  have Xne : hh.objs.size + 1 ≠ hh.objs.size := by lia
  refine wpAny_execs_cons (plainObj_wpAny_Assign_Attribute (wpAny_Name (wpAny_loadName_local hk (by rw [hkf, hnames]; rfl) Fr0.ns m1 (wpAny_Name (wpAny_loadName_local hk (by rw [hkf, hnames]; rfl) Fr0.ns m0 ?_) (by decide))) (by decide)))
  refine set_dict (s := ⟨h₁, g, d, tk₁, os⟩) Fr0 hK0 N0 (inst_at (N0 _ (.head _)).1 (N0 _ (.tail _ (.head _))).1) rfl K.setA K.over K.t1 K.hd (by rfl) rfl (.tail Xne (.head (by simp))) (Nat.le_of_ble_eq_true rfl) fun h' Fr1 N1 => ?_
  refine wpAny_execs_cons (plainObj_wpAny_Assign_Attribute (wpAny_Name (wpAny_loadName_local hk (by rw [hkf, hnames]; rfl) Fr1.ns m2 (wpAny_Name (wpAny_loadName_local hk (by rw [hkf, hnames]; rfl) Fr1.ns m0 ?_) (by decide))) (by decide)))
  refine set_dict (s := ⟨h', g, d, tk₁ + 2, os⟩) Fr1 hK0 N1 (inst_at (N1 _ (.head _)).1 (N1 _ (.tail _ (.head _))).1) rfl K.setA K.over K.t2 K.hd (by rfl) rfl (.tail Xne (.head (by simp))) (Nat.le_of_ble_eq_true rfl) fun h'' Fr2 N2 => ?_
  refine wpAny_execs_cons (plainObj_wpAny_Assign_Attribute (wpAny_Name (wpAny_loadName_local hk (by rw [hkf, hnames]; rfl) Fr2.ns m3 (wpAny_Name (wpAny_loadName_local hk (by rw [hkf, hnames]; rfl) Fr2.ns m0 ?_) (by decide))) (by decide)))
  refine set_dict (s := ⟨h'', g, d, tk₁ + 2 + 2, os⟩) Fr2 hK0 N2 (inst_at (N2 _ (.head _)).1 (N2 _ (.tail _ (.head _))).1) rfl K.setA K.over K.t3 K.hd (by rfl) rfl (.tail Xne (.head (by simp))) (Nat.le_of_ble_eq_true rfl) fun h3' Fr3 N3 => ?_
  refine wpAny_execs_nil ⟨rfl, ?_⟩
  exact k _ _ h3' _ _ _ Fr3.keep nx nd (N3 _ (.head _)).1 (N3 _ (.tail _ (.head _))).1 (by rfl) (by rfl) (by rfl) (by rfl)

variable {F : Fm} {l : Bool} {st : St} {Post : D → St → Prop}
/-- SearchPiece(a, b, levels) -/
theorem Ev.make (K : ClsAt c fI fD) (H : InitAt c fI) {x : Str} (hxx : x = "SearchPiece") {ea eb el : Expr} {p pos : Pos} (hx : F.names.lookup x = some .globalImplicit) (hkk : 1 ≤ F.k)
    (h : Ev c F l st ea fun d1 st1 => Ev c F l st1 eb fun d2 st2 => Ev c F l st2 el fun d3 st3 => ∃ i j ls, d1 = .int i ∧ d2 = .int j ∧ d3 = .list ls ∧ Post (.piece i j ls) st3) (hd : (x == ("__debug__" : Str)) = false := by decide)
    (he : starEach [ea, eb, el] F.env = (false, eval ea F.env) :: starEach [eb, el] F.env := by rfl) (he2 : starEach [eb, el] F.env = (false, eval eb F.env) :: starEach [el] F.env := by rfl) (he3 : starEach [el] F.env = [(false, eval el F.env)] := by rfl)
    (hplain : (backTo pos (starEach [eb, el] F.env)).any (·.1) = false := by rfl) :
    Ev c F l st (.Call (.Name x p) [ea, eb, el] [] pos) Post := by
  intro A P ow m s Q E X k
  subst hxx
  refine PyProof.Rows.Call_ (gname X hx H.mg ?_ hd)
  refine callWith_K (h₀ := c.H0) c.KX H.keep ?_ he hplain
  refine spliced_more (h A P ow m s _ E X fun v1 d1 n1 s1 p1 X1 i1 e1 => ?_) he
  refine spliced_more (p1 A P ow m s1 _ E X1 fun v2 d2 n2 s2 p2 X2 i2 e2 => ?_) he2
  refine spliced_more (p2 A P ow m s2 _ E X2 fun v3 d3 n3 s3 p3 X3 i3 e3 => spliced_none ⟨c.KX.keeps X3.mid.base, ?_⟩) he3
  obtain ⟨i, j, ls, rfl, rfl, rfl, pp⟩ := p3
  obtain ⟨t1, rfl⟩ := i1.invInt
  obtain ⟨t2, rfl⟩ := i2.invInt
  have r := X.wf.room
  refine call_piece K H (n := n3) ⟨r.1, by have := r.2.1; lia, by have := r.2.2; lia⟩ X3.mid i3.handed fun y dx h' tk es n' kp nx nd gx gd g1 g2 g3 g4 => ?_
  have X4 := X3.keep (tk := tk) kp
  have nA : ∀ {a}, s3.heap.get? a = Option.none → ¬ Av F l A st ow a := fun {a} hn q => by
    have : ∃ o, s3.heap.get? a = some o := Or.elim q (X3.Alt a) fun q => X3.Mex q.2
    obtain ⟨o, e⟩ := this
    rw [hn] at e; cases e
  exact k (.ref y) _ n3 _ pp X4 (.piece gx gd (nA nx) (nA nd) g1 g2 g3 g4 (i3.ext fun a o e n => ⟨kp a o e, n⟩)) (((e1.trans e2).trans e3).trans (.of_keep kp))
end
end Mine

set_option maxRecDepth 100000
namespace Mine
open PySem PySem.W PyProof.Rows PySem.Calls

@[reducible] noncomputable def LV (x1 x2 x3 x4 x5 x6 x7 x8 x9 x10 x11 x12 x13 x14 x15 x16 x17 : Option D) : List (Option D) :=
  [Option.none, x1, x2, x3, x4, x5, x6, x7, x8, x9, x10, x11, x12, x13, x14, x15, x16, x17, Option.none, Option.none, Option.none, Option.none, Option.none, Option.none, Option.none, Option.none, Option.none, Option.none, Option.none, Option.none, Option.none, Option.none, Option.none, Option.none, Option.none]
@[reducible] noncomputable def lawFr (pm code doc : Value) (a L : Addr) (B : Around) : Fm := frm (docDef "law" (fA 23) (fB 23) (fC 23) pm code doc) a 4 L B

theorem ok_opt (n : Nat) (o : Option (Nat × Nat)) : D.ok (n + 1) (optP o) = true := by
  rcases o with _ | ⟨a, b⟩
  · rfl
  · cases n <;> rfl
theorem optP_inj {a b : Option (Nat × Nat)} (h : optP a = optP b) : a = b := by
  rcases a with _ | ⟨a, a'⟩ <;> rcases b with _ | ⟨b, b'⟩
  · rfl
  · cases h
  · cases h
  · simp only [optP, D.tup.injEq, List.cons.injEq, D.int.injEq, and_true] at h
    have h1 := Int.ofNat.inj h.1
    have h2 := Int.ofNat.inj h.2
    rw [h1, h2]
noncomputable def coreO (rows : List Row) (W : Lv) (i : Nat) : Option (Nat × Nat) := if isIdle W then none else (coreF rows W i).map fun h => (i, h)


theorem ok_rows (n : Nat) (rows : List Row) : D.ok (n + 4) (.list (rows.map rowD)) = true := by
  rw [D.ok_list]
  intro d hd
  obtain ⟨r, _, rfl⟩ := List.mem_map.mp hd
  unfold rowD
  rw [D.ok_tup]
  intro d hd
  simp only [List.mem_cons, List.not_mem_nil, or_false] at hd
  rcases hd with rfl | rfl | rfl
  · rfl
  · rfl
  · exact ok_lvs n r.2.2
section
variable {c : Cx} {fI fD : Addr}

set_option maxHeartbeats 2000000 in
theorem law_end {f : Nat → Addr} (S : Fs c fI fD f) (rows : List Row) {n0 : Nat} (R : RowsOk n0 rows) (pm code doc : Value) (a L : Addr) (B : Around) (n : Nat) (hn : n + 11 ≤ maxT) :
    Ex c (lawFr pm code doc a L B) { vars := LV (some .deck) Option.none (some (.list (rows.map rowD))) Option.none Option.none Option.none Option.none Option.none Option.none (some (.list (rows.map pieceD))) Option.none Option.none Option.none Option.none Option.none Option.none Option.none, tb := n } ((fB 23).drop 11) (fun _ => False) (fun d _ => d = .bool true) := by
  have hlen := R.inn.len
  refine Ex.cons (Ex1.assign (i := 17) (k := .local) (by rfl) (by rfl) (by rfl) (Ev.call1 S.f22 (by rfl) (Ev.name (d := .deck) (by rfl) ⟨2, 11, _, fn_matches S, (by decide : 2 ≤ 4), hn, fun d hd => ?_⟩)))
  obtain ⟨qs, rfl, hl, hq⟩ := hd
  have hl2 : (mirF 40 qs).length ≤ 1000 := by simpa [mirF] using hl
  have hl3 : (apartF (mirF 40 qs)).length ≤ 1000 := by
    have := apartS_len (mirF 40 qs) [] 0
    unfold apartF; simp at this; lia
  have hl4 : (mirF 40 (apartF (mirF 40 qs))).length ≤ 1000 := by simpa [mirF] using hl3
  refine Ex.cons (Ex1.ite (Tst.or (Tst.cmp (Ev.call1 S.f9 (by rfl) (Ev.name (d := .list (qs.map prD)) (by rfl) ⟨1, 0, _, fn_apart S qs hl, (by decide : 1 ≤ 4), (by show n + 11 + 0 ≤ maxT; exact hn), fun d hd => ?_⟩)))))
  subst hd
  refine Ev.call1 S.f20 (by rfl) (Ev.name (d := .list (qs.map prD)) (by rfl) ⟨1, 0, _, fn_lawapart S qs hl, (by decide : 1 ≤ 4), (by show n + 11 + 0 + 0 ≤ maxT; exact hn), fun d hd => ?_⟩)
  subst hd
  refine ⟨false, CmpOk.ne (ok_prs 6 _) (ok_prs 6 _) (by simp), fun _ => ?_, nofun⟩
  refine Tst.cmp (Ev.call1 S.f10 (by rfl) (Ev.name (d := .list (qs.map prD)) (by rfl) ⟨1, 0, _, fn_back S qs hl, (by decide : 1 ≤ 4), (by show n + 11 + 0 + 0 + 0 ≤ maxT; exact hn), fun d hd => ?_⟩))
  subst hd
  refine Ev.sliceRev (Ev.call2 S.f21 (by rfl) (Ev.call1 S.f20 (by rfl) (Ev.call2 S.f21 (by rfl) (Ev.name (d := .list (qs.map prD)) (by rfl) (Ev.int ⟨1, 0, _, fn_mirrored S qs 40 hl, (by decide : 1 ≤ 4), (by show n + 11 + 0 + 0 + 0 + 0 ≤ maxT; exact hn), fun d hd => ?_⟩)))))
  subst hd
  refine ⟨1, 0, _, fn_lawapart S _ hl2, (by decide : 1 ≤ 4), (by show n + 11 + 0 + 0 + 0 + 0 + 0 ≤ maxT; exact hn), fun d hd => ?_⟩
  subst hd
  refine Ev.int ⟨1, 0, _, fn_mirrored S _ 40 hl3, (by decide : 1 ≤ 4), (by show n + 11 + 0 + 0 + 0 + 0 + 0 + 0 ≤ maxT; exact hn), fun d hd => ?_⟩
  subst hd
  refine Ev.neg (Ev.int ⟨_, rfl, _, rfl, rfl, by rw [List.length_map]; lia, false, CmpOk.ne (ok_prs 6 _) (by rw [← List.map_reverse]; exact ok_prs 6 _) ?_, nofun, fun _ => Ex.nil ?_⟩)
  · rw [← List.map_reverse, back_mirror 40 qs hq]; simp
  refine Ex.cons (Ex1.ret (Ev.cmp (Ev.comp1 (by rfl) (It.list (Ev.name (d := .list (rows.map pieceD)) (by rfl) ⟨_, rfl, fun D₀ cl C => ?_⟩)))))
  refine CpT.sel (R := fun y d => ∃ r : Row, y = pieceD r ∧ d = rowD r) (S := fun _ => False) (b := 0) (by rw [List.length_map]; lia) (fun y hy n' hn' => ?_) fun ds hsel => ?_
  · obtain ⟨r, _, rfl⟩ := List.mem_map.mp hy
    refine TgA.name (i := 1) (k := .local) (by rfl) (by rfl) (IfsT.nil ⟨fun _ => ?_, nofun⟩)
    exact Ev.tup3 (Ev.field S.K (Ev.name (d := pieceD r) (by rfl) ⟨_, .first, Ev.field S.K (Ev.name (d := pieceD r) (by rfl) ⟨_, .behind, Ev.field S.K (Ev.name (d := pieceD r) (by rfl) ⟨_, .levels, ⟨r, rfl, rfl⟩, Sub.mk' ⟨⟩ (Nat.le_refl _)⟩)⟩)⟩))
  · have : ds = rows.map rowD := by
      clear hl hq hl2 hl3 hl4 R hlen hn
      induction rows generalizing ds with
      | nil => cases hsel; rfl
      | cons r rows ih =>
        rw [List.map_cons] at hsel
        cases hsel with
        | take a h =>
          obtain ⟨r', e, rfl⟩ := a
          rw [List.map_cons, ih _ h]
          have : r' = r := by
            obtain ⟨a, b, l⟩ := r
            obtain ⟨a', b', l'⟩ := r'
            simp only [pieceD, D.piece.injEq] at e
            rw [e.1, e.2.1, lvs_inj e.2.2]
          rw [this]
        | skip a _ => exact a.elim
    subst this
    exact Ev.name (d := .list (rows.map rowD)) (by rfl) ⟨true, CmpOk.eq (ok_rows 4 rows) (ok_rows 4 rows) (by simp), rfl⟩
end
end Mine

set_option maxRecDepth 100000
namespace Mine
open PySem PySem.W PyProof.Rows PySem.Calls

section
variable {c : Cx} {fI fD : Addr}

@[reducible] noncomputable def tSt (rows : List Row) (W : Lv) (p : Option (Int → Bool)) (g : Int → Option Int) (nn : Nat) (n : Nat) (wide : Bool) (F : List (Int × Int)) (low told core : Option D) : St :=
  { vars := LV (some .deck) Option.none (some (.list (rows.map rowD))) low Option.none Option.none (some (.list (lvs W))) (some (endD p)) told (some (.list (rows.map pieceD))) (some (.map g nn)) (some (.bool (isIdle W))) (some (.bool wide)) Option.none core Option.none Option.none, own := some (14, .list (F.map prD)), plain := true, tb := n }

theorem dueF_idle {p : Option (Int → Bool)} {rows : List Row} {wide : Bool} {W : Lv} (k : Nat) (h : isIdle W = true) : dueF p rows wide W k = [] := by unfold dueF; rw [if_pos h]

set_option maxHeartbeats 4000000 in
theorem law_loops {f : Nat → Addr} (S : Fs c fI fD f) (rows : List Row) (W : Lv) (R : RowsOk W.length rows) (hW : ∀ w ∈ W, w.length ≤ 1000) (p : Option (Int → Bool)) (g : Int → Option Int) (nn : Nat) (hg : ∀ l : Nat, l < rows.length → g (l : Nat) = upI (coreF rows W l))
    (pm code doc : Value) (a L : Addr) (B : Around) (n : Nat) (hn : n + 11 ≤ maxT) :
    Ex c (lawFr pm code doc a L B) { vars := LV (some .deck) Option.none (some (.list (rows.map rowD))) Option.none Option.none Option.none (some (.list (lvs W))) (some (endD p)) Option.none (some (.list (rows.map pieceD))) (some (.map g nn)) (some (.bool (isIdle W))) Option.none Option.none Option.none Option.none Option.none, tb := n } ((fB 23).drop 10) (fun _ => False) (fun d _ => d = .bool true) := by
  have hlen := R.inn.len
  have hn2 := R.inn.n
  have hne := R.ne
  have hn0 : n + 0 ≤ maxT := by lia
  refine Ex.cons (Ex1.for (It.tup (Ev.tup2 (Ev.bool (Ev.bool ⟨_, rfl, ?_⟩)))))
  refine Lp.inv (fun _ st => st = { vars := LV (some .deck) Option.none (some (.list (rows.map rowD))) Option.none Option.none Option.none (some (.list (lvs W))) (some (endD p)) Option.none (some (.list (rows.map pieceD))) (some (.map g nn)) (some (.bool (isIdle W))) Option.none Option.none Option.none Option.none Option.none, tb := n }) ?_ rfl ?_
  · rintro i x hx st rfl
    have hxw : ∃ wide : Bool, x = .bool wide := by
      match i, hx with
      | 0, hx => simp at hx; exact ⟨_, hx.symm⟩
      | 1, hx => simp at hx; exact ⟨_, hx.symm⟩
      | i + 2, hx => simp at hx
    obtain ⟨wide, rfl⟩ := hxw
    clear hx
    refine ExA.name (i := 13) (k := .local) (by rfl) (by rfl) (by rfl) ?_
    refine Ex.cons (Ex1.ownNil (i := 14) (k := .local) (by rfl) (by rfl) ?_)
    refine Ex.cons (Ex1.for (It.range1 (by rfl) (Ev.len (by rfl) (Ev.name (d := .list (rows.map rowD)) (by rfl) ⟨_, rfl, by rw [List.length_map]; lia, _, rfl, by rw [List.length_map]; lia, by lia, ?_⟩))))
    rw [List.length_map, Int.toNat_natCast]
    refine Lp.inv (fun i st => st = tSt rows W p g nn n wide (dueF p rows wide W i) Option.none Option.none Option.none) ?_ ?_ ?_
    · rintro i x hx st rfl
      have hi : i < rows.length := by have := (List.getElem?_eq_some_iff.mp hx).1; rwa [intsD_length] at this
      have hx' := intsD_get hx
      subst hx'
      rw [show (0 : Int) + (i : Int) = (i : Nat) by lia]
      obtain ⟨dl1, dl2⟩ := due_le (p := p) (wide := wide) R i (by lia)
      generalize hF : dueF p rows wide W i = F at dl1 dl2
      have hgi := hg i hi
      have hsc := stretch_core R.inn hi
      refine ExA.name (i := 4) (k := .local) (by rfl) (by rfl) (by rfl) ?_
      refine Ex.cons (Ex1.assign (i := 15) (k := .local) (by rfl) (by rfl) (by rfl) (Tr.mono (Post := fun d st' => d = optP (coreO rows W i) ∧ st' = tSt rows W p g nn n wide F (some (.int (i : Nat))) Option.none Option.none) (Ev.ifexp (Tst.and (Tst.cmp (Ev.name (d := .int (i : Nat)) (by rfl) (Ev.name (d := .map g nn) (by rfl) ⟨(g (i : Nat)).isSome, CmpOk.inMap, fun hq => ?_, fun hq => ⟨nofun, fun _ => Ev.none ⟨?_, rfl⟩⟩⟩))))) (fun d st' h => ?_)))
      · obtain ⟨z, hz⟩ := Option.isSome_iff_exists.mp hq
        rw [hz] at hgi
        obtain ⟨h, hh, hzh⟩ : ∃ h, coreF rows W i = some h ∧ z = (h : Nat) := by
          cases e : coreF rows W i with
          | none => rw [e] at hgi; cases hgi
          | some h => rw [e] at hgi; cases hgi; exact ⟨h, rfl, rfl⟩
        subst hzh
        refine Tst.not (Tst.val (Ev.name (d := .bool (isIdle W)) (by rfl) ⟨isIdle W, rfl, fun hb => ?_, fun hb => ?_⟩))
        · have hb' : isIdle W = false := by simpa using hb
          refine Ev.tup2 (Ev.name (d := .int (i : Nat)) (by rfl) (Ev.item (Ev.name (d := .map g nn) (by rfl) (Ev.name (d := .int (i : Nat)) (by rfl) ⟨.int (h : Nat), .map hz, ?_, rfl⟩))))
          unfold coreO; rw [hb', hh]; rfl
        · have hb' : isIdle W = true := by simpa using hb
          refine Ev.none ⟨?_, rfl⟩
          unfold coreO; rw [hb']; rfl
      · have : coreF rows W i = none := by
          cases e : coreF rows W i with
          | none => rfl
          | some h => rw [e] at hgi; rw [hgi] at hq; cases hq
        unfold coreO; rw [this]; split <;> rfl
      obtain ⟨rfl, rfl⟩ := h
      show Ex c _ (tSt rows W p g nn n wide F (some (.int (i : Nat))) Option.none (some (optP (coreO rows W i)))) _ _ _
      cases hc : coreO rows W i with
      | none =>
        have hst : isIdle W = false → stretchF rows i W = none := fun hb => by
          unfold coreO at hc
          rw [if_neg (by simp [hb])] at hc
          rw [hsc, hc]
        have hdue : dueF p rows wide W (i + 1) = F := by
          cases hb : isIdle W with
          | true => rw [dueF_idle _ hb, ← hF, dueF_idle _ hb]
          | false =>
            rw [due_step i hb, hF]
            unfold dueS chosenAt
            rw [hst hb]; rfl
        refine Ex.cons (Ex1.ite (Tst.mono (B := fun b st' => b = false ∧ st' = tSt rows W p g nn n wide F (some (.int (i : Nat))) Option.none (some (optP none))) (Tst.and (Tst.not (Tst.val (Ev.name (d := .bool (isIdle W)) (by rfl) ⟨isIdle W, rfl, fun hb => ?_, fun hb => ⟨rfl, rfl⟩⟩)))) (fun b st' h => ?_)))
        · have hb' : isIdle W = false := by simpa using hb
          refine Tst.cmp (Ev.call3 S.f3 (by rfl) (Ev.name (d := .list (rows.map pieceD)) (by rfl) (Ev.name (d := .int (i : Nat)) (by rfl) (Ev.name (d := .list (lvs W)) (by rfl) ⟨2, 0, _, fn_stretch S.K S.M S.f2 S.f3 rows W R.inn hW i hi, (by decide : 2 ≤ 4), hn0, fun d hd => ?_⟩))))
          subst hd
          rw [hst hb']
          exact Ev.name (d := optP none) (by rfl) ⟨false, CmpOk.ne (ok_opt 7 _) (ok_opt 7 _) (by simp), rfl, rfl⟩
        obtain ⟨rfl, rfl⟩ := h
        refine ⟨nofun, fun _ => Ex.nil ?_⟩
        refine Ex.cons (Ex1.assign (i := 9) (k := .local) (by rfl) (by rfl) (by rfl) (Ev.ifexp (Tst.cmp (Ev.name (d := optP none) (by rfl) (Ev.none ⟨true, CmpOk.isNone (by simp [optP]), fun _ => Ev.none ?_, nofun⟩)))))
        refine Ex.cons (Ex1.ite (Tst.and (Tst.cmp (Ev.name (d := optP none) (by rfl) (Ev.none ⟨false, CmpOk.isNotNone (by simp [optP]), nofun, fun _ => ⟨nofun, fun _ => Ex.nil ?_⟩⟩)))))
        refine Ex.cons (Ex1.ite (Tst.cmp (Ev.name (d := .none) (by rfl) (Ev.none ⟨false, CmpOk.isNotNone (by simp), nofun, fun _ => Ex.nil (Ex.nil ?_)⟩))))
        rw [hdue]
        exact ⟨_, Sub.mk' (v := LV (some .deck) Option.none (some (.list (rows.map rowD))) Option.none Option.none Option.none (some (.list (lvs W))) (some (endD p)) Option.none (some (.list (rows.map pieceD))) (some (.map g nn)) (some (.bool (isIdle W))) (some (.bool wide)) Option.none Option.none Option.none Option.none) ⟨rfl, rfl, rfl, rfl, rfl, rfl, rfl, rfl, ⟨⟩⟩ (Nat.le_refl _), rfl⟩
      | some q =>
        obtain ⟨hb, h, hh, rfl⟩ : isIdle W = false ∧ ∃ h, coreF rows W i = some h ∧ q = (i, h) := by
          unfold coreO at hc
          split at hc
          · cases hc
          · rename_i hb
            obtain ⟨h, hh, e⟩ := Option.map_eq_some_iff.mp hc
            exact ⟨by simpa using hb, h, hh, e.symm⟩
        obtain ⟨k1, k2, k3, k4⟩ := core_ok hi hh
        have hst : stretchF rows i W = some (i, h) := by rw [hsc, hh]; rfl
        have hch : chosenAt p rows wide W i = chosenF p rows wide i h := by unfold chosenAt; rw [hst]; rfl
        have hset := chosen_set (p := p) (wide := wide) k1 k2 k3 k4
        have hdue : dueF p rows wide W (i + 1) = dueS p rows wide W F i := by rw [due_step i hb, hF]
        unfold dueS at hdue
        rw [hch] at hdue
        refine Ex.cons (Ex1.ite (Tst.and (Tst.not (Tst.val (Ev.name (d := .bool (isIdle W)) (by rfl) ⟨isIdle W, rfl, fun _ => ?_, fun hb' => ?_⟩)))))
        · refine Tst.cmp (Ev.call3 S.f3 (by rfl) (Ev.name (d := .list (rows.map pieceD)) (by rfl) (Ev.name (d := .int (i : Nat)) (by rfl) (Ev.name (d := .list (lvs W)) (by rfl) ⟨2, 0, _, fn_stretch S.K S.M S.f2 S.f3 rows W R.inn hW i hi, (by decide : 2 ≤ 4), hn0, fun d hd => ?_⟩))))
          subst hd
          rw [hst]
          refine Ev.name (d := optP (some (i, h))) (by rfl) ⟨false, CmpOk.ne (ok_opt 7 _) (ok_opt 7 _) (by simp), nofun, fun _ => Ex.nil ?_⟩
          refine Ex.cons (Ex1.assign (i := 9) (k := .local) (by rfl) (by rfl) (by rfl) (Ev.ifexp (Tst.cmp (Ev.name (d := optP (some (i, h))) (by rfl) (Ev.none ⟨false, CmpOk.isNone (by simp [optP]), nofun, fun _ => ?_⟩)))))
          refine Ev.call4 S.f19 (by rfl) (Ev.name (d := .list (rows.map rowD)) (by rfl) (Ev.name (d := optP (some (i, h))) (by rfl) (Ev.name (d := endD p) (by rfl) (Ev.name (d := .bool wide) (by rfl) ⟨3, 0, _, fn_settled S rows R.inn p wide i h k1 k2, (by decide : 3 ≤ 4), hn0, fun d hd => ?_⟩))))
          obtain ⟨r, rfl, hr⟩ := hd
          have hrc := set_det hr hset
          subst hrc
          refine Ex.cons (Ex1.ite (Tst.and (Tst.cmp (Ev.name (d := optP (some (i, h))) (by rfl) (Ev.none ⟨true, CmpOk.isNotNone (by simp [optP]), fun _ => ?_, nofun⟩)))))
          refine Tst.cmp (Ev.call4 S.f7 (by rfl) (Ev.name (d := .list (rows.map pieceD)) (by rfl) (Ev.name (d := optP (some (i, h))) (by rfl) (Ev.name (d := endD p) (by rfl) (Ev.name (d := .bool wide) (by rfl) ⟨3, 0, _, fn_chosen S rows R.inn p wide i h k1 k2 k3, (by decide : 3 ≤ 4), hn0, fun d hd => ?_⟩)))))
          subst hd
          refine Ev.name (d := optP (chosenF p rows wide i h)) (by rfl) ⟨false, CmpOk.ne (ok_opt 7 _) (ok_opt 7 _) (by simp), nofun, fun _ => Ex.nil ?_⟩
          rw [hdue]
          cases hcf : chosenF p rows wide i h with
          | none =>
            refine Ex.cons (Ex1.ite (Tst.cmp (Ev.name (d := optP none) (by rfl) (Ev.none ⟨false, CmpOk.isNotNone (by simp [optP]), nofun, fun _ => Ex.nil (Ex.nil ?_)⟩))))
            exact ⟨_, Sub.mk' (v := LV (some .deck) Option.none (some (.list (rows.map rowD))) Option.none Option.none Option.none (some (.list (lvs W))) (some (endD p)) Option.none (some (.list (rows.map pieceD))) (some (.map g nn)) (some (.bool (isIdle W))) (some (.bool wide)) Option.none Option.none Option.none Option.none) ⟨rfl, rfl, rfl, rfl, rfl, rfl, rfl, rfl, ⟨⟩⟩ (Nat.le_refl _), rfl⟩
          | some q =>
            obtain ⟨x, y⟩ := q
            obtain ⟨_, _, m3, m4, m5⟩ := chosenAt_spec R.inn hi (hch.trans hcf)
            have hxl : x < rows.length := by lia
            have hyl : y - 1 < rows.length := by lia
            refine Ex.cons (Ex1.ite (Tst.cmp (Ev.name (d := optP (some (x, y))) (by rfl) (Ev.none ⟨true, CmpOk.isNotNone (by simp [optP]), fun _ => ?_, nofun⟩))))
            refine Ex.cons (Ex1.append (i := 14) (k := .local) (by rfl) (by rfl) rfl (by simp; lia) (Ev.tup2 (Ev.item (Ev.item (Ev.name (d := .list (rows.map rowD)) (by rfl) (Ev.item (Ev.name (d := optP (some (x, y))) (by rfl) (Ev.int ⟨.int (x : Nat), .tup (by decide) (by decide) rfl, rowD rows[x], rowItem hxl rfl hlen, Ev.int ⟨.int rows[x].1, .tup (by decide) (by decide) rfl, ?_⟩⟩))))))))
            refine Ev.item (Ev.item (Ev.name (d := .list (rows.map rowD)) (by rfl) (Ev.sub (Ev.item (Ev.name (d := optP (some (x, y))) (by rfl) (Ev.int ⟨.int (y : Nat), .tup (by decide) (by decide) rfl, Ev.int ⟨_, _, rfl, rfl, rowD rows[y - 1], rowItem hyl (by lia) hlen, Ev.int ⟨.int rows[y - 1].2.1, .tup (by decide) (by decide) rfl, Ex.nil (Ex.nil ?_)⟩⟩⟩))))))
            refine ⟨_, Sub.mk' (v := LV (some .deck) Option.none (some (.list (rows.map rowD))) Option.none Option.none Option.none (some (.list (lvs W))) (some (endD p)) Option.none (some (.list (rows.map pieceD))) (some (.map g nn)) (some (.bool (isIdle W))) (some (.bool wide)) Option.none Option.none Option.none Option.none) ⟨rfl, rfl, rfl, rfl, rfl, rfl, rfl, rfl, ⟨⟩⟩ (Nat.le_refl _), ?_⟩
            simp [prD, placeF, firstAt_eq hxl, behindAt_eq hyl]
        · rw [hb] at hb'; cases hb'
    · show _ = tSt rows W p g nn n wide (dueF p rows wide W 0) Option.none Option.none Option.none
      have : dueF p rows wide W 0 = [] := by unfold dueF; split <;> rfl
      rw [this]; rfl
    · rintro st st' rfl hsub
      rw [intsD_length] at hsub
      refine ExS.sub ?_ hsub
      obtain ⟨dl1, dl2⟩ := due_le (p := p) (wide := wide) R rows.length (Nat.le_refl _)
      have hall := all_due (p := p) (wide := wide) R
      generalize dueF p rows wide W rows.length = F at dl1 dl2 hall
      refine Ex.disown (i := 14) (d := .list (F.map prD)) rfl (by simp) ?_
      refine Ex.cons (Ex1.ite (Tst.cmp (Ev.call4 S.f8 (by rfl) (Ev.name (d := .list (rows.map pieceD)) (by rfl) (Ev.name (d := .list (lvs W)) (by rfl) (Ev.name (d := endD p) (by rfl) (Ev.name (d := .bool wide) (by rfl) ⟨4, 0, _, fn_all S rows W R.inn hW p wide, (by decide : 4 ≤ 4), hn0, fun d hd => ?_⟩)))))))
      subst hd
      rw [hall]
      refine Ev.name (d := .list (F.map prD)) (by rfl) ⟨false, CmpOk.ne (ok_prs 6 _) (ok_prs 6 _) (by simp), nofun, fun _ => Ex.nil ?_⟩
      have hll : rows.length - 1 < rows.length := by lia
      refine Ex.cons (Ex1.assign (i := 16) (k := .local) (by rfl) (by rfl) (by rfl) (Ev.item (Ev.item (Ev.name (d := .list (rows.map rowD)) (by rfl) (Ev.neg (Ev.int ⟨_, rfl, rowD rows[rows.length - 1], .last (fun h => by have := congrArg List.length h; simp only [List.length_map, List.length_nil] at this; lia) (by rw [List.length_map]; lia) ?_, Ev.int ⟨.int (behindAt rows (rows.length - 1)), ?_, ?_⟩⟩))))))
      · rw [List.getLast?_map, List.getLast?_eq_getElem?, List.getElem?_eq_getElem hll]; rfl
      · rw [behindAt_eq hll]; exact .tup (by decide) (by decide) rfl
      generalize behindAt rows (rows.length - 1) = size at dl2
      have hl : F.length ≤ 1000 := by lia
      have hl2 : (mirF size F).length ≤ 1000 := by simpa [mirF] using hl
      have hl3 : (apartF (mirF size F)).length ≤ 1000 := by
        have := apartS_len (mirF size F) [] 0
        unfold apartF; simp at this; lia
      have hl4 : (mirF size (apartF (mirF size F))).length ≤ 1000 := by simpa [mirF] using hl3
      refine Ex.cons (Ex1.ite (Tst.or (Tst.cmp (Ev.call1 S.f9 (by rfl) (Ev.name (d := .list (F.map prD)) (by rfl) ⟨1, 0, _, fn_apart S F hl, (by decide : 1 ≤ 4), hn0, fun d hd => ?_⟩)))))
      subst hd
      refine Ev.call1 S.f20 (by rfl) (Ev.name (d := .list (F.map prD)) (by rfl) ⟨1, 0, _, fn_lawapart S F hl, (by decide : 1 ≤ 4), hn0, fun d hd => ?_⟩)
      subst hd
      refine ⟨false, CmpOk.ne (ok_prs 6 _) (ok_prs 6 _) (by simp), fun _ => ?_, nofun⟩
      refine Tst.cmp (Ev.call1 S.f10 (by rfl) (Ev.name (d := .list (F.map prD)) (by rfl) ⟨1, 0, _, fn_back S F hl, (by decide : 1 ≤ 4), hn0, fun d hd => ?_⟩))
      subst hd
      refine Ev.sliceRev (Ev.call2 S.f21 (by rfl) (Ev.call1 S.f20 (by rfl) (Ev.call2 S.f21 (by rfl) (Ev.name (d := .list (F.map prD)) (by rfl) (Ev.name (d := .int size) (by rfl) ⟨1, 0, _, fn_mirrored S F size hl, (by decide : 1 ≤ 4), hn0, fun d hd => ?_⟩)))))
      subst hd
      refine ⟨1, 0, _, fn_lawapart S _ hl2, (by decide : 1 ≤ 4), hn0, fun d hd => ?_⟩
      subst hd
      refine Ev.name (d := .int size) (by rfl) ⟨1, 0, _, fn_mirrored S _ size hl3, (by decide : 1 ≤ 4), hn0, fun d hd => ?_⟩
      subst hd
      refine Ev.neg (Ev.int ⟨_, rfl, _, rfl, rfl, by rw [List.length_map]; lia, false, CmpOk.ne (ok_prs 6 _) (by rw [← List.map_reverse]; exact ok_prs 6 _) ?_, nofun, fun _ => Ex.nil (Ex.nil ?_)⟩)
      · rw [← List.map_reverse, back_mirror size F dl2]; simp
      exact ⟨_, Sub.mk' (v := LV (some .deck) Option.none (some (.list (rows.map rowD))) Option.none Option.none Option.none (some (.list (lvs W))) (some (endD p)) Option.none (some (.list (rows.map pieceD))) (some (.map g nn)) (some (.bool (isIdle W))) Option.none Option.none Option.none Option.none Option.none) ⟨rfl, rfl, rfl, rfl, rfl, rfl, rfl, ⟨⟩⟩ (Nat.le_refl _), rfl⟩
  · rintro st st' rfl hsub
    exact ExS.sub (law_end S rows R pm code doc a L B n hn) (Sub.trans (Sub.mk' (v' := LV (some .deck) Option.none (some (.list (rows.map rowD))) Option.none Option.none Option.none (some (.list (lvs W))) (some (endD p)) Option.none (some (.list (rows.map pieceD))) (some (.map g nn)) (some (.bool (isIdle W))) Option.none Option.none Option.none Option.none Option.none) ⟨rfl, rfl, rfl, ⟨⟩⟩ (Nat.le_refl _)) hsub)
end
end Mine

set_option maxRecDepth 100000
namespace Mine
open PySem PySem.W PyProof.Rows PySem.Calls

section
variable {c : Cx} {fI fD : Addr}

set_option maxHeartbeats 4000000 in
theorem law_mid {f : Nat → Addr} (S : Fs c fI fD f) (HI : InitAt c fI) (rows : List Row) (W : Lv) (R : RowsOk W.length rows) (hW : ∀ w ∈ W, w.length ≤ 1000) (p : Option (Int → Bool))
    (pm code doc : Value) (a L : Addr) (B : Around) (n : Nat) (hn : n + 11 ≤ maxT) :
    Ex c (lawFr pm code doc a L B) { vars := LV (some .deck) Option.none (some (.list (rows.map rowD))) Option.none Option.none Option.none (some (.list (lvs W))) (some (endD p)) Option.none Option.none Option.none Option.none Option.none Option.none Option.none Option.none Option.none, tb := n } ((fB 23).drop 8) (fun _ => False) (fun d _ => d = .bool true) := by
  have hlen := R.inn.len
  have hn2 := R.inn.n
  have hn0 : n + 0 ≤ maxT := by lia
  refine Ex.cons (Ex1.comp1 (i := 10) (k := .local) (by rfl) (by rfl) (by rfl) (by rfl) (It.list (Ev.name (d := .list (rows.map rowD)) (by rfl) ⟨_, rfl, fun D₀ cl C => ?_⟩)))
  refine CpT.sel (R := fun y d => ∃ r : Row, y = rowD r ∧ d = pieceD r) (S := fun _ => False) (b := 0) (by rw [List.length_map]; lia) (fun y hy n' hn' => ?_) fun ds hsel => ?_
  · obtain ⟨r, hr, rfl⟩ := List.mem_map.mp hy
    obtain ⟨hr1, hr2⟩ := R.inn.lv r hr
    refine TgA.tup3 (i := 1) (k := .local) (j := 2) (k' := .local) (l := 3) (k2 := .local) (by rfl) (by rfl) (by rfl) (by rfl) (by rfl) (by rfl) (IfsT.nil ⟨fun _ => ?_, nofun⟩)
    refine Ev.make S.K HI rfl (by rfl) (by decide : 1 ≤ 4) (Ev.name (d := .int r.1) (by rfl) (Ev.name (d := .int r.2.1) (by rfl) ?_))
    refine Ev.comp1 (by rfl) (It.list (Ev.name (d := .list (lvs r.2.2)) (by rfl) ⟨_, rfl, fun D₀ cl C => ?_⟩))
    refine CpT.sel (R := fun y d => y = d) (S := fun _ => False) (b := 0) (by unfold lvs; rw [List.length_map]; lia) (fun y hy n' hn' => ?_) fun ds hsel => ?_
    · obtain ⟨ws, hws, rfl⟩ := List.mem_map.mp hy
      have := hr2 ws hws
      refine TgA.name (i := 1) (k := .local) (by rfl) (by rfl) (IfsT.nil ⟨fun _ => ?_, nofun⟩)
      exact Ev.listB (by rfl) (Ev.name (d := ws2D ws) (by rfl) ⟨_, rfl, by rw [List.length_map]; lia, rfl, Sub.mk' ⟨⟩ (Nat.le_refl _)⟩)
    · have : ds = lvs r.2.2 := by
        generalize lvs r.2.2 = xs at hsel
        induction hsel with
        | nil => rfl
        | take e _ ih => rw [e, ih]
        | skip e _ _ => exact e.elim
      subst this
      exact ⟨_, _, _, rfl, rfl, rfl, ⟨r, rfl, rfl⟩, Sub.mk' ⟨⟩ (by rw [Nat.mul_zero]; exact Nat.le_refl _)⟩
  have : ds = rows.map pieceD := by
    clear R hlen hn
    induction rows generalizing ds with
    | nil => cases hsel; rfl
    | cons r rows ih =>
      rw [List.map_cons] at hsel
      cases hsel with
      | take a h =>
        obtain ⟨r', e, rfl⟩ := a
        rw [List.map_cons, ih _ h, rowD_inj e]
      | skip a _ => exact a.elim
  subst this
  clear hsel
  rw [Nat.mul_zero]
  refine Ex.cons (Ex1.swap2 (i := 11) (k := .local) (j := 12) (k' := .local) (by rfl) (by rfl) (by rfl) (by rfl) (by rfl) (by rfl) (Ev.tup2 ?_))
  refine Ev.call2 S.f17 (by rfl) (Ev.name (d := .list (rows.map rowD)) (by rfl) (Ev.name (d := .list (lvs W)) (by rfl) ⟨2, 0, _, fn_cores S rows W R.inn, (by decide : 2 ≤ 4), hn0, fun d hd => ?_⟩))
  obtain ⟨g, nn, rfl, hg⟩ := hd
  refine Ev.idleCmp (by rfl) (by decide) (by decide) (by decide) (It.list (Ev.name (d := .list (lvs W)) (by rfl) ⟨_, rfl, W, rfl, by lia, _, _, rfl, ?_⟩))
  exact law_loops S rows W R hW p g nn hg pm code doc a L B n hn
end
end Mine

set_option maxRecDepth 100000
namespace Mine
open PySem PySem.W PyProof.Rows PySem.Calls

section
variable {c : Cx} {fI fD : Addr}

set_option maxHeartbeats 4000000 in
theorem law_ends {f : Nat → Addr} (S : Fs c fI fD f) (HI : InitAt c fI) (rows : List Row) (W : Lv) (R : RowsOk W.length rows) (hW : ∀ w ∈ W, w.length ≤ 1000) (way : Int)
    (pm code doc : Value) (a L : Addr) (B : Around) (n : Nat) (hn : n ≤ 1000) :
    Ex c (lawFr pm code doc a L B) { vars := LV (some .deck) Option.none (some (.list (rows.map rowD))) Option.none Option.none (some (.int way)) (some (.list (lvs W))) Option.none Option.none Option.none Option.none Option.none Option.none Option.none Option.none Option.none Option.none, tb := n } ((fB 23).drop 6) (fun _ => False) (fun d _ => d = .bool true) := by
  have hlen := R.inn.len
  have hn2 := R.inn.n
  refine Ex.cons (Ex1.assign (i := 8) (k := .local) (by rfl) (by rfl) (by rfl) (Ev.none ?_))
  refine Ex.cons (Ex.mono (N := fun st => ∃ (p : Option (Int → Bool)) (m : Nat), m ≤ n + 16 ∧ st = { vars := LV (some .deck) Option.none (some (.list (rows.map rowD))) Option.none Option.none (some (.int way)) (some (.list (lvs W))) (some (endD p)) Option.none Option.none Option.none Option.none Option.none Option.none Option.none Option.none Option.none, tb := m }) (Ex1.ite (Tst.cmp (Ev.name (d := .int way) (by rfl) (Ev.int ⟨decide (way < 3), CmpOk.int (by simp [cmpI]), fun _ => ?_, fun _ => Ex.nil ⟨Option.none, n, by lia, rfl⟩⟩)))) (fun st hst => ?_) fun _ _ h => h)
  · refine Ex.cons (Ex1.assign (i := 8) (k := .local) (by rfl) (by rfl) (by rfl) (Ev.dictComp2 (by rfl) (by rfl) (It.list (Ev.name (d := .list (rows.map rowD)) (by rfl) ⟨_, rfl, fun D₀ cl C => ?_⟩))))
    refine CpT.inv (fun i acc st' => ∃ ks : List Int, acc = ks.map pairT ∧ ks.length ≤ 2 * i ∧ st' = { vars := [Option.none, Option.none, Option.none, Option.none, some .deck], tb := n + 2 * i }) (fun i x hx acc st' ⟨ks, hks, hkl, e⟩ => ?_) ⟨[], rfl, by simp, rfl⟩ fun acc st' ⟨ks, hks, hkl, e⟩ => ?_
    · subst e
      rw [List.getElem?_map] at hx
      obtain ⟨r, hr, rfl⟩ := Option.map_eq_some_iff.mp hx
      have hi : i < rows.length := (List.getElem?_eq_some_iff.mp hr).1
      clear hx
      refine TgA.name (i := 1) (k := .local) (by rfl) (by rfl) (IfsT.nil ⟨fun _ => ?_, nofun⟩)
      refine Cs.gen2 (It.tup (Ev.tupTwo (Ev.name (d := rowD r) (by rfl) ⟨_, _, _, rfl, _, rfl, ?_⟩)))
      refine CpT.inv (fun j acc' st' => ∃ ks : List Int, acc' = ks.map pairT ∧ ks.length ≤ 2 * i + j ∧ st' = { vars := [Option.none, some (rowD r), Option.none, Option.none, some .deck], tb := n + 2 * i + j }) (fun j x hx acc' st' ⟨ks, hks, hkl, e⟩ => ?_) ⟨ks, hks, by lia, rfl⟩ fun acc' st' ⟨ks, hks, hkl, e⟩ => ?_
      · subst e
        have hj : j < 2 := (List.getElem?_eq_some_iff.mp hx).1
        obtain ⟨z, rfl⟩ : ∃ z : Int, x = .int z := by
          match j, hx with
          | 0, hx => simp at hx; exact ⟨_, hx.symm⟩
          | 1, hx => simp at hx; exact ⟨_, hx.symm⟩
          | j + 2, hx => simp at hx
        clear hx
        refine TgA.name (i := 2) (k := .local) (by rfl) (by rfl) (IfsT.one (Tst.cmp (Ev.call2 S.f12 (by rfl) (Ev.name (d := .deck) (by rfl) (Ev.int ⟨1, 1, _, fn_draw S.f12 3 (by decide), (by decide : 1 ≤ 4), (by show n + 2 * i + j + 1 ≤ 100000; lia), fun d hd => ?_⟩)))))
        obtain ⟨q, rfl, hq0, hq1⟩ := hd
        refine Ev.int ⟨decide (q > 0), CmpOk.int (by simp [cmpI]), fun _ => ?_, fun _ => ?_⟩
        · refine Cs.emit (by subst hks; rw [List.length_map]; lia) (Ev.tup2 (Ev.name (d := .int z) (by rfl) (Ev.bool ⟨_, Sub.mk' (v := [Option.none, some (rowD r), Option.none, Option.none, some .deck]) ⟨rfl, rfl, ⟨⟩⟩ (n := n + 2 * i + (j + 1)) (Nat.le_refl _), ks ++ [z], ?_, ?_, rfl⟩)))
          · subst hks; simp [pairT]
          · rw [List.length_append, List.length_singleton]; lia
        · exact ⟨_, Sub.mk' (v := [Option.none, some (rowD r), Option.none, Option.none, some .deck]) ⟨rfl, rfl, ⟨⟩⟩ (n := n + 2 * i + (j + 1)) (Nat.le_refl _), ks, hks, by lia, rfl⟩
      · subst e
        exact ⟨_, Sub.mk' (v := [Option.none, Option.none, Option.none, Option.none, some .deck]) ⟨rfl, ⟨⟩⟩ (n := n + 2 * (i + 1)) (Nat.le_refl _), ks, hks, by simp at hkl; lia, rfl⟩
    · subst e
      rw [List.length_map] at hkl ⊢
      exact ⟨ks, hks, by lia, Ex.nil ⟨some _, n + 2 * rows.length, by lia, rfl⟩⟩
  obtain ⟨p, m, hm, rfl⟩ := hst
  exact ExS.sub (law_mid S HI rows W R hW p pm code doc a L B m (by show m + 11 ≤ 100000; lia)) (Sub.mk' (v' := LV (some .deck) Option.none (some (.list (rows.map rowD))) Option.none Option.none (some (.int way)) (some (.list (lvs W))) (some (endD p)) Option.none Option.none Option.none Option.none Option.none Option.none Option.none Option.none Option.none) ⟨rfl, rfl, rfl, rfl, ⟨⟩⟩ (Nat.le_refl _))

theorem join_len {n : Nat} {rows : List Row} (R : RowsIn rows n) : ∀ w ∈ joinF n rows, w.length ≤ 1000 := by
  intro w hw
  unfold joinF at hw
  obtain ⟨k, _, rfl⟩ := List.mem_map.mp hw
  have := flat_len rows k fun r hr => (R.lv r hr).2
  have := R.len
  lia

set_option maxHeartbeats 4000000 in
theorem law_front {f : Nat → Addr} (S : Fs c fI fD f) (HI : InitAt c fI) (pm code doc : Value) (a L : Addr) (B : Around) :
    Ex c (lawFr pm code doc a L B) { vars := LV (some .deck) Option.none Option.none Option.none Option.none Option.none Option.none Option.none Option.none Option.none Option.none Option.none Option.none Option.none Option.none Option.none Option.none, tb := 0 } ((fB 23).drop 1) (fun _ => False) (fun d _ => d = .bool true) := by
  refine Ex.cons (Ex1.assign (i := 2) (k := .local) (by rfl) (by rfl) (by rfl) (Ev.add (Ev.int (Ev.call2 S.f12 (by rfl) (Ev.name (d := .deck) (by rfl) (Ev.int ⟨1, 1, _, fn_draw S.f12 2 (by decide), (by decide : 1 ≤ 4), (by show 0 + 1 ≤ 100000; lia), fun d hd => ?_⟩))))))
  obtain ⟨r, rfl, h0, h1⟩ := hd
  refine ⟨_, _, rfl, rfl, ?_⟩
  obtain ⟨lv, hlv, hlv1, hlv2⟩ : ∃ lv : Nat, 1 + r = (lv : Nat) ∧ 1 ≤ lv ∧ lv ≤ 2 := ⟨(1 + r).toNat, by lia, by lia, by lia⟩
  rw [hlv]
  clear hlv h0 h1
  refine Ex.cons (Ex1.assign (i := 3) (k := .local) (by rfl) (by rfl) (by rfl) (Ev.call2 S.f14 (by rfl) (Ev.name (d := .deck) (by rfl) (Ev.name (d := .int (lv : Nat)) (by rfl) ⟨3, 57, _, fn_pieces S lv hlv2, (by decide : 3 ≤ 4), (by show 0 + 1 + 57 ≤ 100000; lia), fun d hd => ?_⟩))))
  obtain ⟨rows, rfl, R⟩ := hd
  have hlen := R.inn.len
  have hne := R.ne
  refine Ex.cons (Ex1.assign (i := 4) (k := .local) (by rfl) (by rfl) (by rfl) (Ev.call2 S.f12 (by rfl) (Ev.name (d := .deck) (by rfl) (Ev.len (by rfl) (Ev.name (d := .list (rows.map rowD)) (by rfl) ⟨_, rfl, by rw [List.length_map]; lia, 1, 1, _, fn_draw S.f12 _ ?_, (by decide : 1 ≤ 4), (by show 0 + 1 + 57 + 1 ≤ 100000; lia), fun d hd => ?_⟩)))))
  · rw [List.length_map]; lia
  obtain ⟨r, rfl, h0, h1⟩ := hd
  rw [List.length_map] at h1
  obtain ⟨lo, rfl, hlo⟩ : ∃ lo : Nat, r = (lo : Nat) ∧ lo < rows.length := ⟨r.toNat, by lia, by lia⟩
  clear h0 h1
  refine Ex.cons (Ex1.swap2 (i := 5) (k := .local) (j := 6) (k' := .local) (by rfl) (by rfl) (by rfl) (by rfl) (by rfl) (by rfl) (Ev.tup2 (Ev.add (Ev.add (Ev.name (d := .int (lo : Nat)) (by rfl) (Ev.int ⟨_, _, rfl, rfl, ?_⟩))))))
  refine Ev.call2 S.f12 (by rfl) (Ev.name (d := .deck) (by rfl) (Ev.sub (Ev.len (by rfl) (Ev.name (d := .list (rows.map rowD)) (by rfl) ⟨_, rfl, by rw [List.length_map]; lia, Ev.name (d := .int (lo : Nat)) (by rfl) ⟨_, _, rfl, rfl, 1, 1, _, fn_draw S.f12 _ ?_, (by decide : 1 ≤ 4), (by show 0 + 1 + 57 + 1 + 1 ≤ 100000; lia), fun d hd => ?_⟩⟩))))
  · rw [List.length_map]; lia
  obtain ⟨r, rfl, h0, h1⟩ := hd
  rw [List.length_map] at h1
  refine ⟨_, _, rfl, rfl, ?_⟩
  obtain ⟨hi, hhi, hhi1, hhi2⟩ : ∃ hi : Nat, (lo : Int) + 1 + r = (hi : Nat) ∧ lo < hi ∧ hi ≤ rows.length := ⟨((lo : Int) + 1 + r).toNat, by lia, by lia, by lia⟩
  rw [hhi]
  clear hhi h0 h1
  refine Ev.call2 S.f12 (by rfl) (Ev.name (d := .deck) (by rfl) (Ev.int ⟨1, 1, _, fn_draw S.f12 4 (by decide), (by decide : 1 ≤ 4), (by show 0 + 1 + 57 + 1 + 1 + 1 ≤ 100000; lia), fun d hd => ?_⟩))
  obtain ⟨way, rfl, hw0, hw1⟩ := hd
  refine ⟨_, _, rfl, ?_⟩
  refine Ex.cons (Ex1.assign (i := 7) (k := .local) (by rfl) (by rfl) (by rfl) (Tr.mono (Post := fun d st' => (∃ W : Lv, d = .list (lvs W) ∧ W.length = lv ∧ ∀ w ∈ W, w.length ≤ 1000) ∧ ∃ m : Nat, m ≤ 100 ∧ st' = { vars := LV (some .deck) (some (.int (lv : Nat))) (some (.list (rows.map rowD))) (some (.int (lo : Nat))) (some (.int (hi : Nat))) (some (.int way)) Option.none Option.none Option.none Option.none Option.none Option.none Option.none Option.none Option.none Option.none Option.none, tb := m }) (Ev.ifexp (Tst.cmp (Ev.name (d := .int way) (by rfl) (Ev.int ⟨decide (way > 0), CmpOk.int (by simp [cmpI]), fun _ => ?_, fun _ => ?_⟩)))) (fun d st' h => ?_)))
  · have R2 : RowsIn ((rows.drop lo).take (hi - lo)) lv := ⟨by rw [List.length_take, List.length_drop]; lia, fun r hr => R.inn.lv r (List.mem_of_mem_drop (List.mem_of_mem_take hr)), hlv2⟩
    refine Ev.call2 S.f15 (by rfl) (Ev.sliceRun (Ev.name (d := .list (rows.map rowD)) (by rfl) (Ev.name (d := .int (lo : Nat)) (by rfl) (Ev.name (d := .int (hi : Nat)) (by rfl) ⟨_, _, _, rfl, rfl, rfl, by lia, by lia, by rw [List.length_map]; lia, ?_⟩))))
    have e : ((rows.map rowD).drop (Int.toNat (lo : Nat))).take (min (Int.toNat (hi : Nat)) (rows.map rowD).length - Int.toNat (lo : Nat)) = ((rows.drop lo).take (hi - lo)).map rowD := by
      rw [List.length_map, Int.toNat_natCast, Int.toNat_natCast, ← List.map_drop, ← List.map_take, Nat.min_eq_left hhi2]
    rw [e]
    refine Ev.name (d := .int (lv : Nat)) (by rfl) ⟨1, 0, _, fn_joined S _ lv R2, (by decide : 1 ≤ 4), (by show 0 + 1 + 57 + 1 + 1 + 1 + 0 ≤ 100000; lia), fun d hd => ?_⟩
    subst hd
    exact ⟨⟨_, rfl, joinF_length _ _, join_len R2⟩, _, (by show 0 + 1 + 57 + 1 + 1 + 1 + 0 ≤ 100; lia), rfl⟩
  · refine Ev.comp1 (by rfl) (It.range1 (by rfl) (Ev.name (d := .int (lv : Nat)) (by rfl) ⟨_, rfl, by lia, by lia, fun D₀ cl C => ?_⟩))
    rw [Int.toNat_natCast]
    refine CpT.sel (R := fun y d => ∃ ws : List Int, d = ws2D ws ∧ ws.length ≤ 2) (S := fun _ => False) (b := 3) (by rw [intsD_length]; lia) (fun y hy n2 hn2 => ?_) fun ds hsel => ?_
    · have hn3 : n2 + 3 ≤ 100000 := by
        rw [intsD_length] at hn2
        have : n2 + 3 ≤ (0 + 1 + 57 + 1 + 1 + 1) + lv * 3 := hn2
        lia
      refine TgA.name (i := 1) (k := .local) (by rfl) (by rfl) (IfsT.nil ⟨fun _ => ?_, nofun⟩)
      exact Ev.call1 S.f13 (by rfl) (Ev.name (d := .deck) (by rfl) ⟨2, 3, _, fn_weights S, (by decide : 2 ≤ 4), hn3, fun d hd => ⟨hd, Sub.mk' ⟨rfl, ⟨⟩⟩ (Nat.le_refl _)⟩⟩)
    · obtain ⟨ls, rfl, hl1, hl2⟩ := lvs_of_sel hsel
      rw [intsD_length] at hl1 ⊢
      exact ⟨⟨ls, rfl, hl1, fun w hw => by have := hl2 w hw; lia⟩, _, (by show 0 + 1 + 57 + 1 + 1 + 1 + lv * 3 ≤ 100; lia), rfl⟩
  obtain ⟨⟨W, rfl, hWl, hW⟩, m, hm, rfl⟩ := h
  subst hWl
  exact ExS.sub (law_ends S HI rows W R hW way pm code doc a L B m (by lia)) (Sub.mk' (v' := LV (some .deck) (some (.int (W.length : Nat))) (some (.list (rows.map rowD))) (some (.int (lo : Nat))) (some (.int (hi : Nat))) (some (.int way)) (some (.list (lvs W))) Option.none Option.none Option.none Option.none Option.none Option.none Option.none Option.none Option.none Option.none) ⟨rfl, rfl, rfl, rfl, ⟨⟩⟩ (Nat.le_refl _))
end
end Mine

set_option maxRecDepth 100000
namespace Mine
open PySem PySem.W PyProof.Rows PySem.Calls

@[reducible] noncomputable def Cx.re (c : Cx) (S : Shared) (dk dc : Addr) (cells : List Int) (h1 : c.H0.get? dk = none) (h2 : cells.length ≤ 60) : Cx := { c with S0 := S, dk := dk, dc := dc, cells := cells, dlow := h1, clen := h2 }

section
variable {c : Cx} {S0 : Shared} {dk dc : Addr} {cells : List Int} {h1 : c.H0.get? dk = none} {h2 : cells.length ≤ 60} {fI fD : Addr} {f : Nat → Addr}
theorem FnAt.re {x a p b s} (H : FnAt c x a p b s) : FnAt (c.re S0 dk dc cells h1 h2) x a p b s := ⟨H.mg, H.at_⟩
theorem ClsAt.re (H : ClsAt c fI fD) : ClsAt (c.re S0 dk dc cells h1 h2) fI fD := ⟨H.pg, H.hd, H.a1, H.a2, H.a3, H.idle, H.idleF, H.makes, H.init, H.initF, H.setA, H.over, H.t1, H.t2, H.t3⟩
theorem MethAt.re (H : MethAt c fD) : MethAt (c.re S0 dk dc cells h1 h2) fD := ⟨H.at_⟩
theorem InitAt.re (H : InitAt c fI) : InitAt (c.re S0 dk dc cells h1 h2) fI := ⟨H.at_, H.keep, H.mg⟩
theorem Fs.re (H : Fs c fI fD f) : Fs (c.re S0 dk dc cells h1 h2) fI fD f :=
  ⟨H.K.re, H.M.re, H.f2.re, H.f3.re, H.f4.re, H.f5.re, H.f6.re, H.f7.re, H.f8.re, H.f9.re, H.f10.re, H.f12.re, H.f13.re, H.f14.re, H.f15.re, H.f16.re, H.f17.re, H.f18.re, H.f19.re, H.f20.re, H.f21.re, H.f22.re⟩
end

theorem law_cells (L : Addr) : cellsFrom (L + 1) (fC 23).names [] = [(("deck" : Str), L + 1)] := by rfl

set_option maxHeartbeats 4000000 in
theorem law_all {c0 : Cx} {fI fD : Addr} {f : Nat → Addr} (S : Fs c0 fI fD f) (HI : InitAt c0 fI) {pm code doc : Value} {a L sc : Addr} {B : Around} {s : Shared} {m : Str → Option Value} {vs : List Value} {xs : List Int}
    {Q : Flow → Shared → Prop} {E : Value → Shared → Prop} (hr : Room 4 B) (hL : c0.H0.get? L = none) (hC : c0.H0.get? (L + 1) = none) (hb : ∀ b o, c0.H0.get? b = some o → s.heap.get? b = some o) (hns : s.heap.Ns L m)
    (hm : m "script" = some (.ref sc)) (hl : c0.H0.IsList sc vs.toArray) (hi : IntsAre vs xs) (hx : xs.length ≤ 63) (hcl : s.heap.IsCell (L + 1) none)
    (hQ : ∀ s', (∀ b o, c0.H0.get? b = some o → s'.heap.get? b = some o) → s' = { s with heap := s'.heap, toks := s'.toks } → Q (.ret (.bool true)) s') :
    wpAny (model c0.prog c0.w) B (execs (fB 23) (callEnvC (docDef "law" (fA 23) (fB 23) (fC 23) pm code doc) L a)) Q E s := by
  generalize henv : callEnvC (docDef "law" (fA 23) (fB 23) (fC 23) pm code doc) L a = env
  have hvl : vs.length = xs.length := hi.length
  show wpAny _ _ (execs (nthS (fB 23) 0 :: (fB 23).drop 1) _) _ _ _
  have ek : env.scope.kind = .function := by subst henv; rfl
  have eg : env.globals = mainGlobals := by subst henv; rfl
  have eb : env.builtins = builtinsNs := by subst henv; rfl
  have el : env.locals = L := by subst henv; rfl
  have ec : env.cells = [(("deck" : Str), L + 1)] := by subst henv; exact law_cells L
  have k1 : env.kindOf "list" = some .globalImplicit := by subst henv; rfl
  have k2 : env.kindOf "script" = some .local := by subst henv; rfl
  have k3 : env.kindOf "deck" = some .cell := by subst henv; rfl
  refine wpAny_execs_cons (wpAny_Assign_Name (PyProof.Rows.List_ (PyProof.Rows.spliced_more ?_ (by subst henv; rfl))) (by subst henv; rfl))
  refine PyProof.Rows.Call_ (Name_function_global ek k1 (loadGlobal_builtin (mg := c0.mg) (mb := c0.mb) (by rw [eg]; exact c0.g.keeps hb) (c0.miss _ (by decide)) (by rw [eb]; exact c0.b.keeps hb) ((c0.builtins _ (by decide)).trans PyProof.Rows.boot_list) ?_) (by decide))
  refine PyProof.Rows.callWith_type1 (PyProof.Rows.spliced_more ?_ (by subst henv; rfl)) (by subst henv; rfl) (by subst henv; rfl)
  refine PyProof.Rows.Subscript_ (wpAny_Name (wpAny_loadName_local ek k2 (by rw [el]; exact hns) hm ?_) (by decide))
  refine wpAny_Slice ?_
  rw [evalPart_none, evalPart_some]
  refine wpAny_pure (wpAny_Constant_int (wpAny_pure ?_))
  obtain ⟨h0, g0, d0, t0, o0⟩ := s
  dsimp only at hb hns hcl
  have hl0 : h0.IsList sc vs.toArray := hl.at fun o e => hb _ _ e
  have hl1 : (h0.push { cls := .type "slice", data := .fields #[.none, .int 60 t0, .none] }).IsList sc vs.toArray := hl0.at fun o e => Heap.get?_push_of_some _ e
  refine subTail rfl (Heap.IsList.typeIs (s := { heap := _, gens := _, drawn := _, toks := _, os := _ }) hl1) slot_list_getitem.lookup ?_
  refine wpAny_getItem_list_slice hl1 ⟨_, Heap.get?_push_size _ rfl, rfl, rfl⟩ .none (.int _ _) .none (by simp) ?_ (by simp only [List.size_toArray]; rw [sizeLine_eq]; lia)
  rw [pick_upto _ (by decide)]
  refine PyProof.Rows.spliced_none ?_
  have q1 : ∀ b o, h0.get? b = some o → (h0.push { cls := .type "slice", data := .fields #[.none, .int 60 t0, .none] }).get? b = some o := push_keep _
  have q2 : ∀ b o, (h0.push { cls := .type "slice", data := .fields #[.none, .int 60 t0, .none] }).get? b = some o → ((h0.push { cls := .type "slice", data := .fields #[.none, .int 60 t0, .none] }).push { cls := .type "list", data := .seq (vs.take (Int.toNat 60)).toArray }).get? b = some o := push_keep _
  have q3 : ((h0.push { cls := .type "slice", data := .fields #[.none, .int 60 t0, .none] }).push { cls := .type "list", data := .seq (vs.take (Int.toNat 60)).toArray }).get? (h0.push { cls := .type "slice", data := .fields #[.none, .int 60 t0, .none] }).objs.size = some { cls := .type "list", data := .seq (vs.take (Int.toNat 60)).toArray } := Heap.get?_push_size _ rfl
  show wpAny _ _ (call (Value.type "list") [Value.ref (h0.push { cls := .type "slice", data := .fields #[.none, .int 60 t0, .none] }).objs.size]) _ _ ⟨(h0.push { cls := .type "slice", data := .fields #[.none, .int 60 t0, .none] }).push { cls := .type "list", data := .seq (vs.take (Int.toNat 60)).toArray }, g0, d0, t0 + 1, o0⟩
  generalize (h0.push { cls := .type "slice", data := .fields #[.none, .int 60 t0, .none] }).objs.size = sl at q3 ⊢
  generalize h0.push { cls := .type "slice", data := .fields #[.none, .int 60 t0, .none] } = h1 at q1 q2 q3 hl1 ⊢
  generalize h1.push { cls := .type "list", data := .seq (vs.take (Int.toNat 60)).toArray } = h2 at q2 q3 ⊢
  refine call_list_seq (s := ⟨h2, g0, d0, t0 + 1, o0⟩) sl (.inl rfl) q3 rfl rfl (fun h3 c3 q4 q5 => ?_) (by simp only [List.size_toArray, List.length_take]; rw [sizeLine_eq]; lia)
  dsimp only at q4 q5 ⊢
  generalize hdc : h2.objs.size = dcA at q5 ⊢
  have hdcn : h2.get? dcA = none := none_at (by lia)
  refine PyProof.Rows.spliced_more (wpAny_Constant_int (PyProof.Rows.spliced_none ?_)) (by subst henv; rfl)
  refine wpAny_newObj_type ?_ (by show (2 : Nat) ≤ sizeLine; rw [sizeLine_eq]; lia)
  have p1 : h3.get? h3.objs.size = none := none_at (Nat.le_refl _)
  have p2 : ∀ b o, h3.get? b = some o → (h3.push { cls := .type "list", data := .seq #[.ref dcA, .int 0 (t0 + 1)] }).get? b = some o := push_keep _
  have p3 : (h3.push { cls := .type "list", data := .seq #[.ref dcA, .int 0 (t0 + 1)] }).get? h3.objs.size = some { cls := .type "list", data := .seq #[.ref dcA, .int 0 (t0 + 1)] } := Heap.get?_push_size _ rfl
  show wpAny _ _ (storeName env _ (Value.ref h3.objs.size)) _ _ ⟨h3.push { cls := .type "list", data := .seq #[.ref dcA, .int 0 (t0 + 1)] }, g0, d0, t0 + 1 + 1, o0⟩
  generalize hdk : h3.objs.size = dkA at p1 p3 ⊢
  generalize h3.push { cls := .type "list", data := .seq #[.ref dcA, .int 0 (t0 + 1)] } = h4 at p2 p3 ⊢
  have k4 : ∀ b o, h0.get? b = some o → h4.get? b = some o := fun b o e => p2 _ _ (q4 _ _ (q2 _ _ (q1 _ _ e)))
  refine wpAny_storeName_cell (s := ⟨h4, g0, d0, t0 + 1 + 1, o0⟩) (c := L + 1) ek k3 (by rw [ec]; rfl) (hcl.keeps k4) fun h5 hc5 hs5 => ?_
  have kb : ∀ b o, c0.H0.get? b = some o → h5.get? b = some o := fun b o e => (hs5.2 b (fun q => by rw [q, hC] at e; cases e)).trans (k4 _ _ (hb _ _ e))
  have old0 : ∀ {b}, (∃ o, h0.get? b = some o) → b ≠ dkA := fun ⟨o, e⟩ q => by
    have := q4 _ _ (q2 _ _ (q1 _ _ e))
    rw [q, p1] at this; cases this
  have dkH : c0.H0.get? dkA = none := by
    cases e : c0.H0.get? dkA with
    | none => rfl
    | some o => exact absurd rfl (old0 ⟨o, hb _ _ e⟩)
  have exC : ∃ o, h0.get? (L + 1) = some o := by obtain ⟨o, e, _⟩ := hcl; exact ⟨o, e⟩
  have exL : ∃ o, h0.get? L = some o := by obtain ⟨o, _, _, e, _⟩ := hns; exact ⟨o, e⟩
  have neC : L + 1 ≠ dkA := old0 exC
  have neL : L ≠ dkA := old0 exL
  have dcne : dcA ≠ dkA := fun q => by rw [q, p1] at q5; cases q5
  have dcneC : dcA ≠ L + 1 := fun q => by
    obtain ⟨o, e⟩ := exC
    have := q2 _ _ (q1 _ _ e)
    rw [← q, hdcn] at this; cases this
  have gdk : h5.get? dkA = some { cls := .type "list", data := .seq #[.ref dcA, .int 0 (t0 + 1)] } := (hs5.2 _ (Ne.symm neC)).trans p3
  have gdc : h5.get? dcA = some { cls := .type "list", data := .seq (vs.take (Int.toNat 60)).toArray c3 } := (hs5.2 _ dcneC).trans (p2 _ _ q5)
  have ns5 : h5.Ns L m := by
    obtain ⟨o, es, ep, e, r⟩ := hns
    exact ⟨o, es, ep, (hs5.2 _ (Nat.ne_of_lt (Nat.lt_succ_self L))).trans (k4 _ _ e), r⟩
  have S' := S.re (S0 := ⟨h0, g0, d0, t0, o0⟩) (dk := dkA) (dc := dcA) (cells := xs.take 60) (h1 := dkH) (h2 := by rw [List.length_take]; lia)
  have HI' := HI.re (S0 := ⟨h0, g0, d0, t0, o0⟩) (dk := dkA) (dc := dcA) (cells := xs.take 60) (h1 := dkH) (h2 := by rw [List.length_take]; lia)
  subst henv
  have Mc : ∀ b, Mm (lawFr pm code doc a L B) { vars := LV (some .deck) Option.none Option.none Option.none Option.none Option.none Option.none Option.none Option.none Option.none Option.none Option.none Option.none Option.none Option.none Option.none Option.none, tb := 0 } 0 b → b = L ∨ b = L + 1 := by
    rintro b (q | ⟨x, q⟩ | ⟨q, _⟩)
    · exact .inl q
    · have q' : (x, b) ∈ cellsFrom (L + 1) (fC 23).names [] := q
      rw [law_cells] at q'
      simp only [List.mem_singleton, Prod.mk.injEq] at q'
      exact .inr q'.2
    · cases q
  refine law_front S' HI' pm code doc a L B (· = dkA) (fun b => ∃ o, c0.H0.get? b = some o) 0 m ⟨h5, g0, d0, t0 + 1 + 1, o0⟩ Q E ?_ (fun _ _ _ _ q => q.elim) fun v d n s' hd M kp iv => ?_
  · refine ⟨?_, ⟨kb, rfl, ⟨0, t0 + 1, vs.take 60, by lia, by lia, ⟨_, gdk, rfl, _, rfl⟩, ⟨_, gdc, rfl, _, rfl⟩, hi.take 60, dcne⟩⟩, ns5, ?_, rfl, dcne, fun ⟨o, e⟩ => ?_, fun b q => ?_, fun b ⟨o, e⟩ => ⟨o, kb _ _ e⟩, fun b ⟨o, e⟩ q => ?_, fun i d q => ?_, fun i d q => nomatch q⟩
    · refine ⟨ek, rfl, eg, eb, hr, ?_, hL, neL, ?_, ?_, ?_⟩
      · show ((fC 23).names.map (·.1)).Nodup
        decide
      · intro x b q
        have q' : (x, b) ∈ cellsFrom (L + 1) (fC 23).names [] := q
        rw [law_cells] at q'
        simp only [List.mem_singleton, Prod.mk.injEq] at q'
        obtain ⟨_, rfl⟩ := q'
        exact ⟨hC, Nat.succ_ne_self L, neC⟩
      · intro x b q
        have q' : (x, b) ∈ cellsFrom (L + 1) (fC 23).names [] := q
        show (cellsFrom (L + 1) (fC 23).names []).lookup x = some b
        rw [law_cells] at q' ⊢
        simp only [List.mem_singleton, Prod.mk.injEq] at q'
        obtain ⟨rfl, rfl⟩ := q'
        rfl
      · intro x y b q1 q2
        have q1' : (x, b) ∈ cellsFrom (L + 1) (fC 23).names [] := q1
        have q2' : (y, b) ∈ cellsFrom (L + 1) (fC 23).names [] := q2
        rw [law_cells] at q1' q2'
        simp only [List.mem_singleton, Prod.mk.injEq] at q1' q2'
        rw [q1'.1, q2'.1]
    · intro x b q
      have q' : (cellsFrom (L + 1) (fC 23).names []).lookup x = some b := q
      rw [law_cells] at q'
      have := PySem.mem_of_lookup q'
      simp only [List.mem_singleton, Prod.mk.injEq] at this
      obtain ⟨_, rfl⟩ := this
      exact ⟨_, hc5⟩
    · have e' : c0.H0.get? dkA = some o := e
      rw [dkH] at e'; cases e'
    · subst q; exact ⟨_, gdk⟩
    · rcases Mc b q with rfl | rfl
      · rw [hL] at e; cases e
      · rw [hC] at e; cases e
    · match i, q with
      | 0, q => cases q
      | 1, q =>
        cases q
        exact ⟨"deck", .cell, .ref dkA, rfl, .inr ⟨.inl rfl, L + 1, by show (cellsFrom (L + 1) (fC 23).names []).lookup ("deck" : Str) = some (L + 1); rw [law_cells]; rfl, hc5, .inl ⟨rfl, by show (("deck" : Str), L + 1) ∈ cellsFrom (L + 1) (fC 23).names []; rw [law_cells]; exact .head _⟩⟩, .deck⟩
      | i + 2, q =>
        have q' : (List.replicate 33 (Option.none : Option D))[i]? = some (some d) := q
        rw [List.getElem?_replicate] at q'
        split at q' <;> cases q'
  · subst hd
    cases iv
    exact hQ s' M.base M.glob
end Mine

set_option maxRecDepth 100000
namespace Mine
open PySem PySem.W PyProof.Rows PySem.Calls

noncomputable def sName : Stmt → Str
  | .FunctionDef n .. => n
  | _ => ""
noncomputable def drec (i : Nat) : DefRec := ⟨sName (fS i), fA i, fB i, fC i, fP i⟩
noncomputable def defIdx : List Nat := [2, 3, 4, 5, 6, 7, 8, 9, 10, 12, 13, 14, 15, 16, 17, 18, 19, 20, 21, 22]

theorem fs_of {c : Cx} {fI fD : Addr} (K : ClsAt c fI fD) (M : MethAt c fD) (h : ∀ i ∈ defIdx, ∃ a, FnAt c (sName (fS i)) a (fA i) (fB i) (fC i)) : ∃ f, Fs c fI fD f := by
  obtain ⟨a2, h2⟩ := h 2 (by decide)
  obtain ⟨a3, h3⟩ := h 3 (by decide)
  obtain ⟨a4, h4⟩ := h 4 (by decide)
  obtain ⟨a5, h5⟩ := h 5 (by decide)
  obtain ⟨a6, h6⟩ := h 6 (by decide)
  obtain ⟨a7, h7⟩ := h 7 (by decide)
  obtain ⟨a8, h8⟩ := h 8 (by decide)
  obtain ⟨a9, h9⟩ := h 9 (by decide)
  obtain ⟨a10, h10⟩ := h 10 (by decide)
  obtain ⟨a12, h12⟩ := h 12 (by decide)
  obtain ⟨a13, h13⟩ := h 13 (by decide)
  obtain ⟨a14, h14⟩ := h 14 (by decide)
  obtain ⟨a15, h15⟩ := h 15 (by decide)
  obtain ⟨a16, h16⟩ := h 16 (by decide)
  obtain ⟨a17, h17⟩ := h 17 (by decide)
  obtain ⟨a18, h18⟩ := h 18 (by decide)
  obtain ⟨a19, h19⟩ := h 19 (by decide)
  obtain ⟨a20, h20⟩ := h 20 (by decide)
  obtain ⟨a21, h21⟩ := h 21 (by decide)
  obtain ⟨a22, h22⟩ := h 22 (by decide)
  exact ⟨fun i => [0, 0, a2, a3, a4, a5, a6, a7, a8, a9, a10, 0, a12, a13, a14, a15, a16, a17, a18, a19, a20, a21, a22].getD i 0, K, M, h2, h3, h4, h5, h6, h7, h8, h9, h10, h12, h13, h14, h15, h16, h17, h18, h19, h20, h21, h22⟩

noncomputable def methIn (K : Frag) (j : Nat) (a : Addr) : Prop :=
  ∃ o fd, K.lookup a = some o ∧ o.data = .func fd ∧ codeIn K fd.code fd.qualname = true ∧ fd.body = .stmts (sBody (nthS (fB 1) j)) ∧ fd.closure = [] ∧ fd.globals = mainGlobals ∧ fd.builtins = builtinsNs ∧ fd.scope = sScope (nthS (fB 1) j) ∧ fd.params = sArgs (nthS (fB 1) j) ∧ fd.defaults = .none ∧ fd.kwdefaults = .none

theorem recs_of {p : Program} (e : recsOf p = defIdx.map drec ++ [drec 23]) : ∀ i ∈ defIdx, drec i ∈ recsOf p := fun i hi => by
  rw [e]; exact List.mem_append_left _ (List.mem_map_of_mem hi)
theorem look_of {K : Frag} {h : Heap} (_ : K.In h) {a : Addr} {o : Obj} (e : K.lookup a = some o) : K.lookup a = some o := e

theorem law_top {prog : Program} {w : World} {p : Program} {loose : List Str} {mean : ExcName → Option Value} {mg mb : Str → Option Value} {K : Frag} {s₁ : Shared} (KX : K.In s₁.heap) (T : Top p loose mean mg mb s₁.heap) (C fI fD : Addr)
    (recs : ∀ i ∈ defIdx, drec i ∈ recsOf p)
    (hmiss : ∀ x ∈ (["len", "range", "enumerate", "all", "min", "max", "int", "list", "dict"] : List Str), nsIn K mainGlobals x = some Option.none)
    (hC : nsIn K mainGlobals "SearchPiece" = some (some (.ref C))) (hkeep : keepIn K (.ref C) = true)
    (pg : plainGet K C (Str.ofString "") = true) (hd : hasDictIn K C = true) (a1 : findIn K (.ref C) "first" = some Option.none) (a2 : findIn K (.ref C) "behind" = some Option.none) (a3 : findIn K (.ref C) "levels" = some Option.none)
    (idle : findIn K (.ref C) "is_idle" = some (some (.ref fD))) (idleF : typeIn K (.ref fD) = some (.type "function")) (makes : makesIn K C = true) (init : findIn K (.ref C) "__init__" = some (some (.ref fI)))
    (initF : typeIn K (.ref fI) = some (.type "function")) (setA : findIn K (.ref C) "__setattr__" = some (some (.builtin "object.__setattr__"))) (over : plainOver K C = true)
    (t1 : takerIn K C "first" = some Option.none) (t2 : takerIn K C "behind" = some Option.none) (t3 : takerIn K C "levels" = some Option.none)
    (hI : methIn K 0 fI) (hD : methIn K 1 fD)
    {nm : Str} {scp : Scope} {bd : List Stmt} (e1 : nm = "law") (e2 : scp = fC 23) (e3 : bd = fB 23) {B : Around} (hr : Room 4 B) {a : Addr} {cd : Value} {h₁ : Heap} {tk₁ : Nat} {m : Str → Option Value} (F : Fr s₁.heap s₁.heap.objs.size h₁ m)
    {sc : Addr} {vs : List Value} {xs : List Int} (hm : m "script" = some (.ref sc)) (hl : s₁.heap.IsList sc vs.toArray) (hi : IntsAre vs xs) (hx : xs.length ≤ 63) {wo : Obj}
    (N : News s₁.heap s₁.heap.objs.size h₁ [(s₁.heap.objs.size + 1, wo)]) (hwo : wo.data = .cell Option.none) {Q : Flow → Shared → Prop} {E : Value → Shared → Prop}
    (hQ : ∀ s', (∀ b o, s₁.heap.get? b = some o → s'.heap.get? b = some o) → s'.gens = s₁.gens → s'.os = s₁.os → Q (.ret (.bool true)) s') :
    wpAny (model prog w) B (execs bd (envOfC nm scp s₁.heap.objs.size a cd)) Q E ⟨h₁, s₁.gens, s₁.drawn, tk₁, s₁.os⟩ := by
  subst e1 e2 e3
  let c0 : Cx := { prog := prog, w := w, H0 := s₁.heap, S0 := s₁, mg := mg, mb := mb, K := K, C := C, dk := s₁.heap.objs.size, dc := 0, cells := [], KX := KX, g := T.g, b := T.b, nolimit := T.nolimit, builtins := T.builtins, dlow := none_at (Nat.le_refl _), clen := by simp, miss := fun x hx => mg_none_of KX T.g (hmiss x hx) }
  have cls : ClsAt c0 fI fD := ⟨pg, hd, a1, a2, a3, idle, idleF, makes, init, initF, setA, over, t1, t2, t3⟩
  have ini : InitAt c0 fI := by
    obtain ⟨o, fd, h1, h2, h3, r⟩ := hI
    exact ⟨⟨o, fd, KX _ _ h1, h2, codeRec_of KX h3, r⟩, hkeep, mg_of KX T.g hC⟩
  have met : MethAt c0 fD := by
    obtain ⟨o, fd, h1, h2, h3, r⟩ := hD
    exact ⟨⟨o, fd, KX _ _ h1, h2, codeRec_of KX h3, r⟩⟩
  obtain ⟨f, S⟩ := fs_of cls met fun i hi => by
    obtain ⟨a, o, pm, code, doc, h1, h2, h3, h4⟩ := T.fn (drec i) (recs i hi)
    exact ⟨a, ⟨h1, o, pm, code, doc, h2, h3, h4⟩⟩
  have hn := N _ (.head _)
  exact law_all (c0 := c0) S ini (pm := .none) (code := cd) (doc := .none) (a := a) (L := s₁.heap.objs.size) (s := ⟨h₁, s₁.gens, s₁.drawn, tk₁, s₁.os⟩) hr (none_at (Nat.le_refl _)) hn.2.2 F.keep F.ns hm hl hi hx ⟨wo, hn.1, hwo⟩
    fun s' k e => hQ s' k (by rw [e]) (by rw [e])
end Mine

set_option maxRecDepth 100000
namespace Mine
open PySem PySem.W PyProof.Rows PySem.Calls

/-- the globals' dict: the start's entries behind __name__, then the first k names of the text -/
noncomputable def news : List (Str × Nat × Nat) :=
  [("SearchPiece", 227, 36), ("search_begins", 235, 47), ("search_stretch", 241, 52), ("search_widest", 251, 59), ("search_whole", 262, 66), ("search_narrowed", 273, 73), ("search_chosen", 283, 80), ("search_all", 289, 85), ("search_apart", 300, 92), ("search_apart_back", 311, 99), ("_law_draw", 325, 106), ("_law_weights", 331, 111), ("_law_pieces", 337, 116), ("_law_joined", 343, 121), ("_law_is_idle", 349, 126), ("_law_cores", 360, 133), ("_law_wide", 369, 140), ("_law_settled", 375, 145), ("_law_apart", 386, 152), ("_law_mirrored", 392, 157), ("_law_matches", 398, 162), ("law", 404, 167)]
noncomputable def glob (P : Params) (v : Value) (k n : Nat) : Obj :=
  { cls := .type "dict", data := .dict (({ hash := PyData.keyHash P "__name__", key := .str "__name__" 165, val := v } : DictEntry) ::
      ((match (boot_o_3 P).data with | .dict es _ => es.toList.drop 1 | _ => []) ++ (news.take k).map fun e => { hash := PyData.keyHash P e.1, key := .str e.1 e.2.1, val := .ref e.2.2 })).toArray n }

/-- the part of the top's heap that the walk knows: the globals, the class and its two methods -/
noncomputable def K0 (P : Params) : Frag :=
  [(3, glob P (.str "law_on0356_01" 312) 22 31),
   (27, { cls := Value.type "code", data := Data.fields #[Value.str "__init__" 201, Value.str "SearchPiece.__init__" 202, Value.str "/claim/cut.py" 203, Value.int 4 0, Value.int 4 0, Value.int 0 0, Value.int 0 0, Value.int 3 0, Value.ref 22, Value.bool true, Value.int 181 0, Value.ref 23, Value.none, Value.ref 24, Value.ref 25, Value.ref 26, Value.int 208 0, Value.int 4 0, Value.str "/claim/cut.py" 209] }),
   (28, { cls := .type "function", data := .func { name := "__init__", qualname := "SearchPiece.__init__", params := sArgs (nthS (fB 1) 0), body := .stmts (sBody (nthS (fB 1) 0)), scope := sScope (nthS (fB 1) 0), globals := 3, closure := [], defaults := .none, kwdefaults := .none, pyModule := .str "unicore.collsearch" 187, code := .ref 27 } }),
   (32, { cls := Value.type "code", data := Data.fields #[Value.str "is_idle" 211, Value.str "SearchPiece.is_idle" 212, Value.str "/claim/cut.py" 213, Value.int 9 0, Value.int 1 0, Value.int 0 0, Value.int 0 0, Value.int 3 0, Value.ref 29, Value.bool true, Value.int 181 0, Value.ref 30, Value.none, Value.none, Value.none, Value.ref 31, Value.int 214 0, Value.int 9 0, Value.str "/claim/cut.py" 215] }),
   (33, { cls := .type "function", data := .func { name := "is_idle", qualname := "SearchPiece.is_idle", params := sArgs (nthS (fB 1) 1), body := .stmts (sBody (nthS (fB 1) 1)), scope := sScope (nthS (fB 1) 1), globals := 3, closure := [], defaults := .none, kwdefaults := .none, pyModule := .str "unicore.collsearch" 187, code := .ref 32 } }),
   (35, { cls := Value.type "dict", data := Data.dict #[{ hash := PyData.keyHash P "__module__", key := Value.str "__module__" 196, val := Value.str "unicore.collsearch" 187 }, { hash := PyData.keyHash P "__firstlineno__", key := Value.str "__firstlineno__" 200, val := Value.int 2 199 }, { hash := PyData.keyHash P "__init__", key := Value.str "__init__" 210, val := Value.ref 28 }, { hash := PyData.keyHash P "is_idle", key := Value.str "is_idle" 216, val := Value.ref 33 }, { hash := PyData.keyHash P "__static_attributes__", key := Value.str "__static_attributes__" 220, val := Value.ref 34 }, { hash := PyData.keyHash P "__dict__", key := Value.str "__dict__" 222, val := Value.ref 37 }, { hash := PyData.keyHash P "__weakref__", key := Value.str "__weakref__" 224, val := Value.ref 38 }, { hash := PyData.keyHash P "__doc__", key := Value.str "__doc__" 225, val := Value.none }] 4 }),
   (36, { cls := Value.type "type", data := Data.cls { name := "SearchPiece", bases := [Value.type "object"], mro := [Value.ref 36, Value.type "object"], ns := 35, qualname := "SearchPiece" }, slots := #[none, none, some (Value.str "SearchPiece" 189), some (Value.str "SearchPiece" 197), some (Value.builtin "object.__new__"), some (Value.bool true)] })]

theorem meth0 (P : Params) : methIn (K0 P) 0 28 := ⟨_, _, rfl, rfl, by kernel_rfl, rfl, rfl, rfl, rfl, rfl, rfl, rfl, rfl⟩
theorem meth1 (P : Params) : methIn (K0 P) 1 33 := ⟨_, _, rfl, rfl, by kernel_rfl, rfl, rfl, rfl, rfl, rfl, rfl, rfl, rfl⟩
theorem miss0 (P : Params) : ∀ x ∈ (["len", "range", "enumerate", "all", "min", "max", "int", "list", "dict"] : List Str), nsIn (K0 P) mainGlobals x = some Option.none := by
  intro x hx
  simp only [List.mem_cons, List.not_mem_nil, or_false] at hx
  rcases hx with rfl | rfl | rfl | rfl | rfl | rfl | rfl | rfl | rfl <;> kernel_rfl

theorem law_top0 {prog : Program} {w : World} {p : Program} {loose : List Str} {mean : ExcName → Option Value} {mg mb : Str → Option Value} {P : Params} {s₁ : Shared} (KX : (K0 P).In s₁.heap) (T : Top p loose mean mg mb s₁.heap)
    (recs : recsOf p = defIdx.map drec ++ [drec 23])
    {nm : Str} {scp : Scope} {bd : List Stmt} (e1 : nm = "law") (e2 : scp = fC 23) (e3 : bd = fB 23) {B : Around} (hr : Room 4 B) {a : Addr} {cd : Value} {h₁ : Heap} {tk₁ : Nat} {m : Str → Option Value} (F : Fr s₁.heap s₁.heap.objs.size h₁ m)
    {sc : Addr} {vs : List Value} {xs : List Int} (hm : m "script" = some (.ref sc)) (hl : s₁.heap.IsList sc vs.toArray) (hi : IntsAre vs xs) (hx : xs.length ≤ 63) {wo : Obj}
    (N : News s₁.heap s₁.heap.objs.size h₁ [(s₁.heap.objs.size + 1, wo)]) (hwo : wo.data = .cell Option.none) {Q : Flow → Shared → Prop} {E : Value → Shared → Prop}
    (hQ : ∀ s', (∀ b o, s₁.heap.get? b = some o → s'.heap.get? b = some o) → s'.gens = s₁.gens → s'.os = s₁.os → Q (.ret (.bool true)) s') :
    wpAny (model prog w) B (execs bd (envOfC nm scp s₁.heap.objs.size a cd)) Q E ⟨h₁, s₁.gens, s₁.drawn, tk₁, s₁.os⟩ :=
  law_top KX T 36 28 33 (recs_of recs) (miss0 P) (by kernel_rfl) (by kernel_rfl) (by kernel_rfl) (by kernel_rfl) (by kernel_rfl) (by kernel_rfl) (by kernel_rfl) (by kernel_rfl) (by kernel_rfl) (by kernel_rfl) (by kernel_rfl) (by kernel_rfl) (by kernel_rfl) (by kernel_rfl) (by kernel_rfl) (by kernel_rfl) (by kernel_rfl) (meth0 P) (meth1 P) e1 e2 e3 hr F hm hl hi hx N hwo hQ
end Mine

set_option maxRecDepth 100000
namespace Mine
open PySem PySem.W PyProof.Rows PySem.Calls

/-- the top's run in four pieces; the states between them are written out -/
noncomputable def cutv (n : Tok) : Value := .str "/claim/cut.py" n
noncomputable def fo (st : Stmt) (q : Str) (pm : Value) (cd : Addr) : Obj :=
  { cls := .type "function", data := .func { name := sName st, qualname := q, params := sArgs st, body := .stmts (sBody st), scope := sScope st, globals := 3, closure := [], defaults := .none, kwdefaults := .none, pyModule := pm, code := .ref cd } }
noncomputable def fp (st : Stmt) (q : Str) : Obj := { cls := .none, data := .func { name := sName st, qualname := q, params := sArgs st, body := .stmts (sBody st), scope := sScope st, globals := 0, closure := [], defaults := .none, kwdefaults := .none } }
noncomputable def tup0 : Obj := { cls := .type "tuple", data := .seq #[] }
noncomputable def o_44 : Obj := { cls := Value.none, data := Data.fields #[] }
noncomputable def o_45 : Obj := { cls := Value.type "code", data := Data.fields #[Value.str "<module>" 182, Value.str "<module>" 183, cutv 184, Value.int 1 0, Value.int 0 0, Value.int 0 0, Value.int 0 0, Value.int 0 0, Value.ref 11, Value.bool false, Value.int 181 0, Value.ref 12, Value.none, Value.none, Value.none, Value.none, Value.int 185 0, Value.int 1 0, cutv 186] }
noncomputable def o_46 : Obj := { cls := Value.type "frame", slots := #[some (Value.ref 13), some (Value.ref 3), some (Value.ref 3), none, some (Value.str "__main__" 164), none, some (Value.ref 0)] }
noncomputable def tr0 (P : Params) : BT := .node (boot_o_0 P) (.node (boot_o_1 P) (.node (boot_o_3 P) (.node (boot_o_7 P) .nil .nil) (.node (tup0) .nil .nil)) (.node (boot_o_5 P) (.node (boot_o_9 P) .nil .nil) (.node (o_45) .nil .nil))) (.node (boot_o_2 P) (.node (boot_o_4 P) (.node (boot_o_8 P) .nil .nil) (.node (o_44) .nil .nil)) (.node (boot_o_6 P) (.node (boot_o_10 P) .nil .nil) (.node (o_46) .nil .nil)))
noncomputable def o_3a (P : Params) : Obj := glob P (.str "unicore.collsearch" 187) 1 10
noncomputable def o_12a : Obj := { cls := Value.none, data := Data.fields #[Value.int 2 0, Value.int 0 0, Value.ref 20] }
noncomputable def o_52 : Obj := { cls := Value.type "builtin_function_or_method", data := Data.fields #[Value.builtin "type.__prepare__", Value.type "type"] }
noncomputable def o_53 (P : Params) : Obj := { cls := Value.type "dict", data := Data.dict #[{ hash := PyData.keyHash P "__module__", key := Value.str "__module__" 196, val := Value.str "unicore.collsearch" 187 }, { hash := PyData.keyHash P "__qualname__", key := Value.str "__qualname__" 198, val := Value.str "SearchPiece" 197 }, { hash := PyData.keyHash P "__firstlineno__", key := Value.str "__firstlineno__" 200, val := Value.int 2 199 }, { hash := PyData.keyHash P "__init__", key := Value.str "__init__" 210, val := Value.ref 28 }, { hash := PyData.keyHash P "is_idle", key := Value.str "is_idle" 216, val := Value.ref 33 }, { hash := PyData.keyHash P "__static_attributes__", key := Value.str "__static_attributes__" 220, val := Value.ref 34 }] 6 }
noncomputable def o_55 : Obj := { cls := Value.none, data := Data.fields #[Value.int 4 0, Value.int 4 0, Value.ref 27, Value.int 9 0, Value.int 4 0, Value.ref 32] }
noncomputable def o_56 : Obj := { cls := Value.type "code", data := Data.fields #[Value.str "SearchPiece" 191, Value.str "SearchPiece" 192, cutv 193, Value.int 2 0, Value.int 0 0, Value.int 0 0, Value.int 0 0, Value.int 0 0, Value.ref 18, Value.bool false, Value.int 181 0, Value.ref 19, Value.none, Value.none, Value.none, Value.none, Value.int 194 0, Value.int 2 0, cutv 195] }
noncomputable def o_57 : Obj := { cls := Value.type "frame", slots := #[some (Value.ref 20), some (Value.ref 3), some (Value.ref 17), none, some (Value.str "unicore.collsearch" 187), none, some (Value.ref 0)] }
noncomputable def o_59 : Obj := { cls := Value.none, data := Data.fields #[] }
noncomputable def o_60 : Obj := { cls := Value.type "tuple", data := Data.seq #[Value.str "self" 204, Value.str "first" 205, Value.str "behind" 206, Value.str "levels" 207] }
noncomputable def o_62 : Obj := fp (nthS (fB 1) 0) "SearchPiece.__init__"
noncomputable def o_63 : Obj := { cls := Value.type "code", data := Data.fields #[Value.str "__init__" 201, Value.str "SearchPiece.__init__" 202, cutv 203, Value.int 4 0, Value.int 4 0, Value.int 0 0, Value.int 0 0, Value.int 3 0, Value.ref 22, Value.bool true, Value.int 181 0, Value.ref 23, Value.none, Value.ref 24, Value.ref 25, Value.ref 26, Value.int 208 0, Value.int 4 0, cutv 209] }
noncomputable def o_64 : Obj := fo (nthS (fB 1) 0) "SearchPiece.__init__" (.str "unicore.collsearch" 187) 27
noncomputable def o_66 : Obj := { cls := Value.none, data := Data.fields #[] }
noncomputable def o_67 : Obj := fp (nthS (fB 1) 1) "SearchPiece.is_idle"
noncomputable def o_68 : Obj := { cls := Value.type "code", data := Data.fields #[Value.str "is_idle" 211, Value.str "SearchPiece.is_idle" 212, cutv 213, Value.int 9 0, Value.int 1 0, Value.int 0 0, Value.int 0 0, Value.int 3 0, Value.ref 29, Value.bool true, Value.int 181 0, Value.ref 30, Value.none, Value.none, Value.none, Value.ref 31, Value.int 214 0, Value.int 9 0, cutv 215] }
noncomputable def o_69 : Obj := fo (nthS (fB 1) 1) "SearchPiece.is_idle" (.str "unicore.collsearch" 187) 32
noncomputable def o_70 : Obj := { cls := Value.type "tuple", data := Data.seq #[Value.str "behind" 217, Value.str "first" 218, Value.str "levels" 219] }
noncomputable def o_71 (P : Params) : Obj := { cls := Value.type "dict", data := Data.dict #[{ hash := PyData.keyHash P "__module__", key := Value.str "__module__" 196, val := Value.str "unicore.collsearch" 187 }, { hash := PyData.keyHash P "__firstlineno__", key := Value.str "__firstlineno__" 200, val := Value.int 2 199 }, { hash := PyData.keyHash P "__init__", key := Value.str "__init__" 210, val := Value.ref 28 }, { hash := PyData.keyHash P "is_idle", key := Value.str "is_idle" 216, val := Value.ref 33 }, { hash := PyData.keyHash P "__static_attributes__", key := Value.str "__static_attributes__" 220, val := Value.ref 34 }, { hash := PyData.keyHash P "__dict__", key := Value.str "__dict__" 222, val := Value.ref 37 }, { hash := PyData.keyHash P "__weakref__", key := Value.str "__weakref__" 224, val := Value.ref 38 }, { hash := PyData.keyHash P "__doc__", key := Value.str "__doc__" 225, val := Value.none }] 4 }
noncomputable def o_72 : Obj := { cls := Value.type "type", data := Data.cls { name := "SearchPiece", bases := [Value.type "object"], mro := [Value.ref 36, Value.type "object"], ns := 35, qualname := "SearchPiece" }, slots := #[none, none, some (Value.str "SearchPiece" 189), some (Value.str "SearchPiece" 197), some (Value.builtin "object.__new__"), some (Value.bool true)] }
noncomputable def o_73 : Obj := { cls := Value.type "getset_descriptor", data := Data.fields #[Value.str "__dict__" 221, Value.ref 36, Value.builtin "function.__dict__", Value.builtin "function.__dict__#set"] }
noncomputable def o_74 : Obj := { cls := Value.type "getset_descriptor", data := Data.fields #[Value.str "__weakref__" 223, Value.ref 36, Value.builtin "ExceptionGroup.__weakref__", Value.none] }
noncomputable def o_75 : Obj := { cls := Value.type "super", data := Data.fields #[Value.ref 36, Value.ref 36, Value.ref 36] }
noncomputable def o_76 : Obj := { cls := Value.type "builtin_function_or_method", data := Data.fields #[Value.builtin "object.__init_subclass__", Value.ref 36] }
noncomputable def tr1 (P : Params) : BT := .node (boot_o_0 P) (.node (boot_o_1 P) (.node (o_3a P) (.node (boot_o_7 P) (.node (tup0) (.node (o_67) .nil .nil) (.nil)) (.node (o_59) (.node (o_75) .nil .nil) (.nil))) (.node (tup0) (.node (o_55) (.node (o_71 P) .nil .nil) (.nil)) (.node (o_63) .nil .nil))) (.node (boot_o_5 P) (.node (boot_o_9 P) (.node (o_53 P) (.node (o_69) .nil .nil) (.nil)) (.node (tup0) .nil .nil)) (.node (o_45) (.node (o_57) (.node (o_73) .nil .nil) (.nil)) (.node (tup0) .nil .nil)))) (.node (boot_o_2 P) (.node (boot_o_4 P) (.node (boot_o_8 P) (.node (o_52) (.node (o_68) .nil .nil) (.nil)) (.node (o_60) (.node (o_76) .nil .nil) (.nil))) (.node (o_12a) (.node (o_56) (.node (o_72) .nil .nil) (.nil)) (.node (o_64) .nil .nil))) (.node (boot_o_6 P) (.node (boot_o_10 P) (.node (tup0) (.node (o_70) .nil .nil) (.nil)) (.node (o_62) .nil .nil)) (.node (o_46) (.node (tup0) (.node (o_74) .nil .nil) (.nil)) (.node (o_66) .nil .nil))))
noncomputable def o_49 (P : Params) : Obj := glob P (.str "unicore.collsearch" 187) 5 14
noncomputable def o_50 : Obj := { cls := Value.none, data := Data.fields #[Value.int 2 0, Value.int 0 0, Value.ref 20, Value.int 11 0, Value.int 0 0, Value.ref 46, Value.int 13 0, Value.int 0 0, Value.ref 51, Value.int 25 0, Value.int 0 0, Value.ref 58, Value.int 32 0, Value.int 0 0, Value.ref 65] }
noncomputable def o_78 : Obj := { cls := Value.none, data := Data.fields #[] }
noncomputable def o_79 : Obj := { cls := Value.type "tuple", data := Data.seq #[Value.str "part" 231, Value.str "whole" 232] }
noncomputable def o_81 : Obj := fp (fS 2) "search_begins"
noncomputable def o_82 : Obj := { cls := Value.type "code", data := Data.fields #[Value.str "search_begins" 228, Value.str "search_begins" 229, cutv 230, Value.int 11 0, Value.int 2 0, Value.int 0 0, Value.int 0 0, Value.int 3 0, Value.ref 41, Value.bool true, Value.int 181 0, Value.ref 42, Value.none, Value.ref 43, Value.ref 44, Value.ref 45, Value.int 233 0, Value.int 11 0, cutv 234] }
noncomputable def o_83 : Obj := fo (fS 2) "search_begins" (.str "unicore.collsearch" 187) 46
noncomputable def o_85 : Obj := { cls := Value.none, data := Data.fields #[] }
noncomputable def o_86 : Obj := fp (fS 3) "search_stretch"
noncomputable def o_87 : Obj := { cls := Value.type "code", data := Data.fields #[Value.str "search_stretch" 236, Value.str "search_stretch" 237, cutv 238, Value.int 13 0, Value.int 3 0, Value.int 0 0, Value.int 0 0, Value.int 3 0, Value.ref 48, Value.bool true, Value.int 181 0, Value.ref 49, Value.none, Value.none, Value.none, Value.ref 50, Value.int 239 0, Value.int 13 0, cutv 240] }
noncomputable def o_88 : Obj := fo (fS 3) "search_stretch" (.str "unicore.collsearch" 187) 51
noncomputable def o_90 : Obj := { cls := Value.none, data := Data.fields #[] }
noncomputable def o_91 : Obj := { cls := Value.type "tuple", data := Data.seq #[Value.str "pieces" 245, Value.str "stretch" 246, Value.str "first" 247, Value.str "behind" 248] }
noncomputable def o_93 : Obj := fp (fS 4) "search_widest"
noncomputable def o_94 : Obj := { cls := Value.type "code", data := Data.fields #[Value.str "search_widest" 242, Value.str "search_widest" 243, cutv 244, Value.int 25 0, Value.int 2 0, Value.int 0 0, Value.int 0 0, Value.int 3 0, Value.ref 53, Value.bool true, Value.int 181 0, Value.ref 54, Value.none, Value.ref 55, Value.ref 56, Value.ref 57, Value.int 249 0, Value.int 25 0, cutv 250] }
noncomputable def o_95 : Obj := fo (fS 4) "search_widest" (.str "unicore.collsearch" 187) 58
noncomputable def o_97 : Obj := { cls := Value.none, data := Data.fields #[] }
noncomputable def o_98 : Obj := { cls := Value.type "tuple", data := Data.seq #[Value.str "pieces" 255, Value.str "stretch" 256, Value.str "ends" 257, Value.str "first" 258, Value.str "behind" 259] }
noncomputable def o_100 : Obj := fp (fS 5) "search_whole"
noncomputable def o_101 : Obj := { cls := Value.type "code", data := Data.fields #[Value.str "search_whole" 252, Value.str "search_whole" 253, cutv 254, Value.int 32 0, Value.int 3 0, Value.int 0 0, Value.int 0 0, Value.int 3 0, Value.ref 60, Value.bool true, Value.int 181 0, Value.ref 61, Value.none, Value.ref 62, Value.ref 63, Value.ref 64, Value.int 260 0, Value.int 32 0, cutv 261] }
noncomputable def o_102 : Obj := fo (fS 5) "search_whole" (.str "unicore.collsearch" 187) 65
noncomputable def tr2 (P : Params) : BT := .node (boot_o_0 P) (.node (boot_o_1 P) (.node (o_49 P) (.node (boot_o_7 P) (.node (tup0) (.node (o_67) (.node (tup0) .nil .nil) (.nil)) (.node (o_83) .nil .nil)) (.node (o_59) (.node (o_75) .nil .nil) (.node (o_91) .nil .nil))) (.node (tup0) (.node (o_55) (.node (o_71 P) .nil .nil) (.node (o_87) .nil .nil)) (.node (o_63) (.node (o_79) .nil .nil) (.node (o_95) .nil .nil)))) (.node (boot_o_5 P) (.node (boot_o_9 P) (.node (o_53 P) (.node (o_69) (.node (o_101) .nil .nil) (.nil)) (.node (o_85) .nil .nil)) (.node (tup0) (.node (tup0) .nil .nil) (.node (o_93) .nil .nil))) (.node (o_45) (.node (o_57) (.node (o_73) .nil .nil) (.node (tup0) .nil .nil)) (.node (tup0) (.node (o_81) .nil .nil) (.node (o_97) .nil .nil))))) (.node (boot_o_2 P) (.node (boot_o_4 P) (.node (boot_o_8 P) (.node (o_52) (.node (o_68) (.node (o_100) .nil .nil) (.nil)) (.node (tup0) .nil .nil)) (.node (o_60) (.node (o_76) .nil .nil) (.node (tup0) .nil .nil))) (.node (o_50) (.node (o_56) (.node (o_72) .nil .nil) (.node (o_88) .nil .nil)) (.node (o_64) (.node (tup0) .nil .nil) (.node (tup0) .nil .nil)))) (.node (boot_o_6 P) (.node (boot_o_10 P) (.node (tup0) (.node (o_70) (.node (o_102) .nil .nil) (.nil)) (.node (o_86) .nil .nil)) (.node (o_62) (.node (o_78) .nil .nil) (.node (o_94) .nil .nil))) (.node (o_46) (.node (tup0) (.node (o_74) .nil .nil) (.node (o_90) .nil .nil)) (.node (o_66) (.node (o_82) .nil .nil) (.node (o_98) .nil .nil)))))
noncomputable def o_103 (P : Params) : Obj := glob P (.str "law_on0356_01" 312) 18 27
noncomputable def o_104 : Obj := { cls := Value.none, data := Data.fields #[Value.int 2 0, Value.int 0 0, Value.ref 20, Value.int 11 0, Value.int 0 0, Value.ref 46, Value.int 13 0, Value.int 0 0, Value.ref 51, Value.int 25 0, Value.int 0 0, Value.ref 58, Value.int 32 0, Value.int 0 0, Value.ref 65, Value.int 43 0, Value.int 0 0, Value.ref 72, Value.int 54 0, Value.int 0 0, Value.ref 79, Value.int 59 0, Value.int 0 0, Value.ref 84, Value.int 72 0, Value.int 0 0, Value.ref 91, Value.int 79 0, Value.int 0 0, Value.ref 98, Value.int 87 0, Value.int 0 0, Value.ref 105, Value.int 96 0, Value.int 0 0, Value.ref 110, Value.int 98 0, Value.int 0 0, Value.ref 115, Value.int 105 0, Value.int 0 0, Value.ref 120, Value.int 107 0, Value.int 0 0, Value.ref 125, Value.int 109 0, Value.int 0 0, Value.ref 132, Value.int 116 0, Value.int 0 0, Value.ref 139, Value.int 122 0, Value.int 0 0, Value.ref 144] }
noncomputable def o_106 : Obj := { cls := Value.none, data := Data.fields #[] }
noncomputable def o_107 : Obj := { cls := Value.type "tuple", data := Data.seq #[Value.str "pieces" 266, Value.str "stretch" 267, Value.str "ends" 268, Value.str "first" 269, Value.str "behind" 270] }
noncomputable def o_109 : Obj := fp (fS 6) "search_narrowed"
noncomputable def o_110 : Obj := { cls := Value.type "code", data := Data.fields #[Value.str "search_narrowed" 263, Value.str "search_narrowed" 264, cutv 265, Value.int 43 0, Value.int 3 0, Value.int 0 0, Value.int 0 0, Value.int 3 0, Value.ref 67, Value.bool true, Value.int 181 0, Value.ref 68, Value.none, Value.ref 69, Value.ref 70, Value.ref 71, Value.int 271 0, Value.int 43 0, cutv 272] }
noncomputable def o_111 : Obj := fo (fS 6) "search_narrowed" (.str "unicore.collsearch" 187) 72
noncomputable def o_113 : Obj := { cls := Value.none, data := Data.fields #[] }
noncomputable def o_114 : Obj := { cls := Value.type "tuple", data := Data.seq #[Value.str "pieces" 277, Value.str "stretch" 278, Value.str "ends" 279, Value.str "is_wide" 280] }
noncomputable def o_116 : Obj := fp (fS 7) "search_chosen"
noncomputable def o_117 : Obj := { cls := Value.type "code", data := Data.fields #[Value.str "search_chosen" 274, Value.str "search_chosen" 275, cutv 276, Value.int 54 0, Value.int 4 0, Value.int 0 0, Value.int 0 0, Value.int 3 0, Value.ref 74, Value.bool true, Value.int 181 0, Value.ref 75, Value.none, Value.ref 76, Value.ref 77, Value.ref 78, Value.int 281 0, Value.int 54 0, cutv 282] }
noncomputable def o_118 : Obj := fo (fS 7) "search_chosen" (.str "unicore.collsearch" 187) 79
noncomputable def o_120 : Obj := { cls := Value.none, data := Data.fields #[] }
noncomputable def o_121 : Obj := fp (fS 8) "search_all"
noncomputable def o_122 : Obj := { cls := Value.type "code", data := Data.fields #[Value.str "search_all" 284, Value.str "search_all" 285, cutv 286, Value.int 59 0, Value.int 4 0, Value.int 0 0, Value.int 0 0, Value.int 3 0, Value.ref 81, Value.bool true, Value.int 181 0, Value.ref 82, Value.none, Value.none, Value.none, Value.ref 83, Value.int 287 0, Value.int 59 0, cutv 288] }
noncomputable def o_123 : Obj := fo (fS 8) "search_all" (.str "unicore.collsearch" 187) 84
noncomputable def o_125 : Obj := { cls := Value.none, data := Data.fields #[] }
noncomputable def o_126 : Obj := { cls := Value.type "tuple", data := Data.seq #[Value.str "found" 293, Value.str "apart" 294, Value.str "reached" 295, Value.str "first" 296, Value.str "behind" 297] }
noncomputable def o_128 : Obj := fp (fS 9) "search_apart"
noncomputable def o_129 : Obj := { cls := Value.type "code", data := Data.fields #[Value.str "search_apart" 290, Value.str "search_apart" 291, cutv 292, Value.int 72 0, Value.int 1 0, Value.int 0 0, Value.int 0 0, Value.int 3 0, Value.ref 86, Value.bool true, Value.int 181 0, Value.ref 87, Value.none, Value.ref 88, Value.ref 89, Value.ref 90, Value.int 298 0, Value.int 72 0, cutv 299] }
noncomputable def o_130 : Obj := fo (fS 9) "search_apart" (.str "unicore.collsearch" 187) 91
noncomputable def o_132 : Obj := { cls := Value.none, data := Data.fields #[] }
noncomputable def o_133 : Obj := { cls := Value.type "tuple", data := Data.seq #[Value.str "found" 304, Value.str "apart" 305, Value.str "reached" 306, Value.str "first" 307, Value.str "behind" 308] }
noncomputable def o_135 : Obj := fp (fS 10) "search_apart_back"
noncomputable def o_136 : Obj := { cls := Value.type "code", data := Data.fields #[Value.str "search_apart_back" 301, Value.str "search_apart_back" 302, cutv 303, Value.int 79 0, Value.int 1 0, Value.int 0 0, Value.int 0 0, Value.int 3 0, Value.ref 93, Value.bool true, Value.int 181 0, Value.ref 94, Value.none, Value.ref 95, Value.ref 96, Value.ref 97, Value.int 309 0, Value.int 79 0, cutv 310] }
noncomputable def o_137 : Obj := fo (fS 10) "search_apart_back" (.str "unicore.collsearch" 187) 98
noncomputable def o_139 : Obj := { cls := Value.none, data := Data.fields #[] }
noncomputable def o_140 : Obj := { cls := Value.type "tuple", data := Data.seq #[Value.str "deck" 317, Value.str "below" 318, Value.str "turn" 319, Value.str "cells" 320, Value.str "cell" 321, Value.str "mixed" 322] }
noncomputable def o_142 : Obj := fp (fS 12) "_law_draw"
noncomputable def o_143 : Obj := { cls := Value.type "code", data := Data.fields #[Value.str "_law_draw" 314, Value.str "_law_draw" 315, cutv 316, Value.int 87 0, Value.int 2 0, Value.int 0 0, Value.int 0 0, Value.int 3 0, Value.ref 100, Value.bool true, Value.int 181 0, Value.ref 101, Value.none, Value.ref 102, Value.ref 103, Value.ref 104, Value.int 323 0, Value.int 87 0, cutv 324] }
noncomputable def o_144 : Obj := fo (fS 12) "_law_draw" (.str "law_on0356_01" 312) 105
noncomputable def o_146 : Obj := { cls := Value.none, data := Data.fields #[] }
noncomputable def o_147 : Obj := fp (fS 13) "_law_weights"
noncomputable def o_148 : Obj := { cls := Value.type "code", data := Data.fields #[Value.str "_law_weights" 326, Value.str "_law_weights" 327, cutv 328, Value.int 96 0, Value.int 1 0, Value.int 0 0, Value.int 0 0, Value.int 3 0, Value.ref 107, Value.bool true, Value.int 181 0, Value.ref 108, Value.none, Value.none, Value.none, Value.ref 109, Value.int 329 0, Value.int 96 0, cutv 330] }
noncomputable def o_149 : Obj := fo (fS 13) "_law_weights" (.str "law_on0356_01" 312) 110
noncomputable def o_151 : Obj := { cls := Value.none, data := Data.fields #[] }
noncomputable def o_152 : Obj := fp (fS 14) "_law_pieces"
noncomputable def o_153 : Obj := { cls := Value.type "code", data := Data.fields #[Value.str "_law_pieces" 332, Value.str "_law_pieces" 333, cutv 334, Value.int 98 0, Value.int 2 0, Value.int 0 0, Value.int 0 0, Value.int 3 0, Value.ref 112, Value.bool true, Value.int 181 0, Value.ref 113, Value.none, Value.none, Value.none, Value.ref 114, Value.int 335 0, Value.int 98 0, cutv 336] }
noncomputable def o_154 : Obj := fo (fS 14) "_law_pieces" (.str "law_on0356_01" 312) 115
noncomputable def o_156 : Obj := { cls := Value.none, data := Data.fields #[] }
noncomputable def o_157 : Obj := fp (fS 15) "_law_joined"
noncomputable def o_158 : Obj := { cls := Value.type "code", data := Data.fields #[Value.str "_law_joined" 338, Value.str "_law_joined" 339, cutv 340, Value.int 105 0, Value.int 2 0, Value.int 0 0, Value.int 0 0, Value.int 3 0, Value.ref 117, Value.bool true, Value.int 181 0, Value.ref 118, Value.none, Value.none, Value.none, Value.ref 119, Value.int 341 0, Value.int 105 0, cutv 342] }
noncomputable def o_159 : Obj := fo (fS 15) "_law_joined" (.str "law_on0356_01" 312) 120
noncomputable def o_161 : Obj := { cls := Value.none, data := Data.fields #[] }
noncomputable def o_162 : Obj := fp (fS 16) "_law_is_idle"
noncomputable def o_163 : Obj := { cls := Value.type "code", data := Data.fields #[Value.str "_law_is_idle" 344, Value.str "_law_is_idle" 345, cutv 346, Value.int 107 0, Value.int 1 0, Value.int 0 0, Value.int 0 0, Value.int 3 0, Value.ref 122, Value.bool true, Value.int 181 0, Value.ref 123, Value.none, Value.none, Value.none, Value.ref 124, Value.int 347 0, Value.int 107 0, cutv 348] }
noncomputable def o_164 : Obj := fo (fS 16) "_law_is_idle" (.str "law_on0356_01" 312) 125
noncomputable def o_166 : Obj := { cls := Value.none, data := Data.fields #[] }
noncomputable def o_167 : Obj := { cls := Value.type "tuple", data := Data.seq #[Value.str "rows" 353, Value.str "wanted" 354, Value.str "found" 355, Value.str "low" 356, Value.str "high" 357] }
noncomputable def o_169 : Obj := fp (fS 17) "_law_cores"
noncomputable def o_170 : Obj := { cls := Value.type "code", data := Data.fields #[Value.str "_law_cores" 350, Value.str "_law_cores" 351, cutv 352, Value.int 109 0, Value.int 2 0, Value.int 0 0, Value.int 0 0, Value.int 3 0, Value.ref 127, Value.bool true, Value.int 181 0, Value.ref 128, Value.none, Value.ref 129, Value.ref 130, Value.ref 131, Value.int 358 0, Value.int 109 0, cutv 359] }
noncomputable def o_171 : Obj := fo (fS 17) "_law_cores" (.str "law_on0356_01" 312) 132
noncomputable def o_173 : Obj := { cls := Value.none, data := Data.fields #[] }
noncomputable def o_174 : Obj := { cls := Value.type "tuple", data := Data.seq #[Value.str "rows" 364, Value.str "low" 365, Value.str "high" 366] }
noncomputable def o_176 : Obj := fp (fS 18) "_law_wide"
noncomputable def o_177 : Obj := { cls := Value.type "code", data := Data.fields #[Value.str "_law_wide" 361, Value.str "_law_wide" 362, cutv 363, Value.int 116 0, Value.int 3 0, Value.int 0 0, Value.int 0 0, Value.int 3 0, Value.ref 134, Value.bool true, Value.int 181 0, Value.ref 135, Value.none, Value.ref 136, Value.ref 137, Value.ref 138, Value.int 367 0, Value.int 116 0, cutv 368] }
noncomputable def o_178 : Obj := fo (fS 18) "_law_wide" (.str "law_on0356_01" 312) 139
noncomputable def o_180 : Obj := { cls := Value.none, data := Data.fields #[] }
noncomputable def o_181 : Obj := fp (fS 19) "_law_settled"
noncomputable def o_182 : Obj := { cls := Value.type "code", data := Data.fields #[Value.str "_law_settled" 370, Value.str "_law_settled" 371, cutv 372, Value.int 122 0, Value.int 4 0, Value.int 0 0, Value.int 0 0, Value.int 3 0, Value.ref 141, Value.bool true, Value.int 181 0, Value.ref 142, Value.none, Value.none, Value.none, Value.ref 143, Value.int 373 0, Value.int 122 0, cutv 374] }
noncomputable def o_183 : Obj := fo (fS 19) "_law_settled" (.str "law_on0356_01" 312) 144
noncomputable def tr3 (P : Params) : BT := .node (boot_o_0 P) (.node (boot_o_1 P) (.node (o_103 P) (.node (boot_o_7 P) (.node (tup0) (.node (o_67) (.node (tup0) (.node (tup0) .nil .nil) (.nil)) (.node (o_133) .nil .nil)) (.node (o_83) (.node (o_117) (.node (o_181) .nil .nil) (.nil)) (.node (o_149) .nil .nil))) (.node (o_59) (.node (o_75) (.node (o_109) (.node (o_173) .nil .nil) (.nil)) (.node (tup0) .nil .nil)) (.node (o_91) (.node (o_125) .nil .nil) (.node (o_157) .nil .nil)))) (.node (tup0) (.node (o_55) (.node (o_71 P) (.node (tup0) (.node (o_169) .nil .nil) (.nil)) (.node (o_137) .nil .nil)) (.node (o_87) (.node (o_121) .nil .nil) (.node (o_153) .nil .nil))) (.node (o_63) (.node (o_79) (.node (o_113) (.node (o_177) .nil .nil) (.nil)) (.node (tup0) .nil .nil)) (.node (o_95) (.node (o_129) .nil .nil) (.node (o_161) .nil .nil))))) (.node (boot_o_5 P) (.node (boot_o_9 P) (.node (o_53 P) (.node (o_69) (.node (o_101) (.node (o_167) .nil .nil) (.nil)) (.node (o_135) .nil .nil)) (.node (o_85) (.node (tup0) (.node (o_183) .nil .nil) (.nil)) (.node (o_151) .nil .nil))) (.node (tup0) (.node (tup0) (.node (o_111) (.node (tup0) .nil .nil) (.nil)) (.node (o_143) .nil .nil)) (.node (o_93) (.node (tup0) .nil .nil) (.node (o_159) .nil .nil)))) (.node (o_45) (.node (o_57) (.node (o_73) (.node (o_107) (.node (o_171) .nil .nil) (.nil)) (.node (o_139) .nil .nil)) (.node (tup0) (.node (o_123) .nil .nil) (.node (tup0) .nil .nil))) (.node (tup0) (.node (o_81) (.node (tup0) (.node (tup0) .nil .nil) (.nil)) (.node (o_147) .nil .nil)) (.node (o_97) (.node (tup0) .nil .nil) (.node (o_163) .nil .nil)))))) (.node (boot_o_2 P) (.node (boot_o_4 P) (.node (boot_o_8 P) (.node (o_52) (.node (o_68) (.node (o_100) (.node (o_166) .nil .nil) (.nil)) (.node (tup0) .nil .nil)) (.node (tup0) (.node (o_118) (.node (o_182) .nil .nil) (.nil)) (.node (tup0) .nil .nil))) (.node (o_60) (.node (o_76) (.node (o_110) (.node (o_174) .nil .nil) (.nil)) (.node (o_142) .nil .nil)) (.node (tup0) (.node (o_126) .nil .nil) (.node (o_158) .nil .nil)))) (.node (o_104) (.node (o_56) (.node (o_72) (.node (o_106) (.node (o_170) .nil .nil) (.nil)) (.node (tup0) .nil .nil)) (.node (o_88) (.node (o_122) .nil .nil) (.node (o_154) .nil .nil))) (.node (o_64) (.node (tup0) (.node (o_114) (.node (o_178) .nil .nil) (.nil)) (.node (o_146) .nil .nil)) (.node (tup0) (.node (o_130) .nil .nil) (.node (o_162) .nil .nil))))) (.node (boot_o_6 P) (.node (boot_o_10 P) (.node (tup0) (.node (o_70) (.node (o_102) (.node (tup0) .nil .nil) (.nil)) (.node (o_136) .nil .nil)) (.node (o_86) (.node (o_120) .nil .nil) (.node (o_152) .nil .nil))) (.node (o_62) (.node (o_78) (.node (tup0) (.node (o_176) .nil .nil) (.nil)) (.node (o_144) .nil .nil)) (.node (o_94) (.node (o_128) .nil .nil) (.node (tup0) .nil .nil)))) (.node (o_46) (.node (tup0) (.node (o_74) (.node (tup0) (.node (tup0) .nil .nil) (.nil)) (.node (o_140) .nil .nil)) (.node (o_90) (.node (tup0) .nil .nil) (.node (o_156) .nil .nil))) (.node (o_66) (.node (o_82) (.node (o_116) (.node (o_180) .nil .nil) (.nil)) (.node (o_148) .nil .nil)) (.node (o_98) (.node (o_132) .nil .nil) (.node (o_164) .nil .nil))))))
noncomputable def o_184 (P : Params) : Obj := glob P (.str "law_on0356_01" 312) 22 31
noncomputable def o_185 : Obj := { cls := Value.none, data := Data.fields #[Value.int 2 0, Value.int 0 0, Value.ref 20, Value.int 11 0, Value.int 0 0, Value.ref 46, Value.int 13 0, Value.int 0 0, Value.ref 51, Value.int 25 0, Value.int 0 0, Value.ref 58, Value.int 32 0, Value.int 0 0, Value.ref 65, Value.int 43 0, Value.int 0 0, Value.ref 72, Value.int 54 0, Value.int 0 0, Value.ref 79, Value.int 59 0, Value.int 0 0, Value.ref 84, Value.int 72 0, Value.int 0 0, Value.ref 91, Value.int 79 0, Value.int 0 0, Value.ref 98, Value.int 87 0, Value.int 0 0, Value.ref 105, Value.int 96 0, Value.int 0 0, Value.ref 110, Value.int 98 0, Value.int 0 0, Value.ref 115, Value.int 105 0, Value.int 0 0, Value.ref 120, Value.int 107 0, Value.int 0 0, Value.ref 125, Value.int 109 0, Value.int 0 0, Value.ref 132, Value.int 116 0, Value.int 0 0, Value.ref 139, Value.int 122 0, Value.int 0 0, Value.ref 144, Value.int 129 0, Value.int 0 0, Value.ref 151, Value.int 136 0, Value.int 0 0, Value.ref 156, Value.int 138 0, Value.int 0 0, Value.ref 161, Value.int 145 0, Value.int 0 0, Value.ref 166] }
noncomputable def o_187 : Obj := { cls := Value.none, data := Data.fields #[] }
noncomputable def o_188 : Obj := { cls := Value.type "tuple", data := Data.seq #[Value.str "found" 379, Value.str "told" 380, Value.str "reached" 381, Value.str "first" 382, Value.str "behind" 383] }
noncomputable def o_190 : Obj := fp (fS 20) "_law_apart"
noncomputable def o_191 : Obj := { cls := Value.type "code", data := Data.fields #[Value.str "_law_apart" 376, Value.str "_law_apart" 377, cutv 378, Value.int 129 0, Value.int 1 0, Value.int 0 0, Value.int 0 0, Value.int 3 0, Value.ref 146, Value.bool true, Value.int 181 0, Value.ref 147, Value.none, Value.ref 148, Value.ref 149, Value.ref 150, Value.int 384 0, Value.int 129 0, cutv 385] }
noncomputable def o_192 : Obj := fo (fS 20) "_law_apart" (.str "law_on0356_01" 312) 151
noncomputable def o_194 : Obj := { cls := Value.none, data := Data.fields #[] }
noncomputable def o_195 : Obj := fp (fS 21) "_law_mirrored"
noncomputable def o_196 : Obj := { cls := Value.type "code", data := Data.fields #[Value.str "_law_mirrored" 387, Value.str "_law_mirrored" 388, cutv 389, Value.int 136 0, Value.int 2 0, Value.int 0 0, Value.int 0 0, Value.int 3 0, Value.ref 153, Value.bool true, Value.int 181 0, Value.ref 154, Value.none, Value.none, Value.none, Value.ref 155, Value.int 390 0, Value.int 136 0, cutv 391] }
noncomputable def o_197 : Obj := fo (fS 21) "_law_mirrored" (.str "law_on0356_01" 312) 156
noncomputable def o_199 : Obj := { cls := Value.none, data := Data.fields #[] }
noncomputable def o_200 : Obj := fp (fS 22) "_law_matches"
noncomputable def o_201 : Obj := { cls := Value.type "code", data := Data.fields #[Value.str "_law_matches" 393, Value.str "_law_matches" 394, cutv 395, Value.int 138 0, Value.int 1 0, Value.int 0 0, Value.int 0 0, Value.int 3 0, Value.ref 158, Value.bool true, Value.int 181 0, Value.ref 159, Value.none, Value.none, Value.none, Value.ref 160, Value.int 396 0, Value.int 138 0, cutv 397] }
noncomputable def o_202 : Obj := fo (fS 22) "_law_matches" (.str "law_on0356_01" 312) 161
noncomputable def o_204 : Obj := { cls := Value.none, data := Data.fields #[] }
noncomputable def o_205 : Obj := fp (fS 23) "law"
noncomputable def o_206 : Obj := { cls := Value.type "code", data := Data.fields #[Value.str "law" 399, Value.str "law" 400, cutv 401, Value.int 145 0, Value.int 1 0, Value.int 0 0, Value.int 0 0, Value.int 3 0, Value.ref 163, Value.bool true, Value.int 181 0, Value.ref 164, Value.none, Value.none, Value.none, Value.ref 165, Value.int 402 0, Value.int 145 0, cutv 403] }
noncomputable def o_207 : Obj := fo (fS 23) "law" (.str "law_on0356_01" 312) 166
noncomputable def tr4 (P : Params) : BT := .node (boot_o_0 P) (.node (boot_o_1 P) (.node (o_184 P) (.node (boot_o_7 P) (.node (tup0) (.node (o_67) (.node (tup0) (.node (tup0) .nil .nil) (.nil)) (.node (o_133) (.node (o_199) .nil .nil) (.nil))) (.node (o_83) (.node (o_117) (.node (o_181) .nil .nil) (.nil)) (.node (o_149) .nil .nil))) (.node (o_59) (.node (o_75) (.node (o_109) (.node (o_173) .nil .nil) (.nil)) (.node (tup0) (.node (o_207) .nil .nil) (.nil))) (.node (o_91) (.node (o_125) (.node (o_191) .nil .nil) (.nil)) (.node (o_157) .nil .nil)))) (.node (tup0) (.node (o_55) (.node (o_71 P) (.node (tup0) (.node (o_169) .nil .nil) (.nil)) (.node (o_137) (.node (tup0) .nil .nil) (.nil))) (.node (o_87) (.node (o_121) (.node (o_187) .nil .nil) (.nil)) (.node (o_153) .nil .nil))) (.node (o_63) (.node (o_79) (.node (o_113) (.node (o_177) .nil .nil) (.nil)) (.node (tup0) .nil .nil)) (.node (o_95) (.node (o_129) (.node (o_195) .nil .nil) (.nil)) (.node (o_161) .nil .nil))))) (.node (boot_o_5 P) (.node (boot_o_9 P) (.node (o_53 P) (.node (o_69) (.node (o_101) (.node (o_167) .nil .nil) (.nil)) (.node (o_135) (.node (o_201) .nil .nil) (.nil))) (.node (o_85) (.node (tup0) (.node (o_183) .nil .nil) (.nil)) (.node (o_151) .nil .nil))) (.node (tup0) (.node (tup0) (.node (o_111) (.node (tup0) .nil .nil) (.nil)) (.node (o_143) .nil .nil)) (.node (o_93) (.node (tup0) (.node (tup0) .nil .nil) (.nil)) (.node (o_159) .nil .nil)))) (.node (o_45) (.node (o_57) (.node (o_73) (.node (o_107) (.node (o_171) .nil .nil) (.nil)) (.node (o_139) (.node (o_205) .nil .nil) (.nil))) (.node (tup0) (.node (o_123) (.node (tup0) .nil .nil) (.nil)) (.node (tup0) .nil .nil))) (.node (tup0) (.node (o_81) (.node (tup0) (.node (tup0) .nil .nil) (.nil)) (.node (o_147) .nil .nil)) (.node (o_97) (.node (tup0) (.node (o_197) .nil .nil) (.nil)) (.node (o_163) .nil .nil)))))) (.node (boot_o_2 P) (.node (boot_o_4 P) (.node (boot_o_8 P) (.node (o_52) (.node (o_68) (.node (o_100) (.node (o_166) .nil .nil) (.nil)) (.node (tup0) (.node (o_200) .nil .nil) (.nil))) (.node (tup0) (.node (o_118) (.node (o_182) .nil .nil) (.nil)) (.node (tup0) .nil .nil))) (.node (o_60) (.node (o_76) (.node (o_110) (.node (o_174) .nil .nil) (.nil)) (.node (o_142) .nil .nil)) (.node (tup0) (.node (o_126) (.node (o_192) .nil .nil) (.nil)) (.node (o_158) .nil .nil)))) (.node (o_185) (.node (o_56) (.node (o_72) (.node (o_106) (.node (o_170) .nil .nil) (.nil)) (.node (tup0) (.node (o_204) .nil .nil) (.nil))) (.node (o_88) (.node (o_122) (.node (o_188) .nil .nil) (.nil)) (.node (o_154) .nil .nil))) (.node (o_64) (.node (tup0) (.node (o_114) (.node (o_178) .nil .nil) (.nil)) (.node (o_146) .nil .nil)) (.node (tup0) (.node (o_130) (.node (o_196) .nil .nil) (.nil)) (.node (o_162) .nil .nil))))) (.node (boot_o_6 P) (.node (boot_o_10 P) (.node (tup0) (.node (o_70) (.node (o_102) (.node (tup0) .nil .nil) (.nil)) (.node (o_136) (.node (o_202) .nil .nil) (.nil))) (.node (o_86) (.node (o_120) (.node (tup0) .nil .nil) (.nil)) (.node (o_152) .nil .nil))) (.node (o_62) (.node (o_78) (.node (tup0) (.node (o_176) .nil .nil) (.nil)) (.node (o_144) .nil .nil)) (.node (o_94) (.node (o_128) (.node (o_194) .nil .nil) (.nil)) (.node (tup0) .nil .nil)))) (.node (o_46) (.node (tup0) (.node (o_74) (.node (tup0) (.node (tup0) .nil .nil) (.nil)) (.node (o_140) (.node (o_206) .nil .nil) (.nil))) (.node (o_90) (.node (tup0) (.node (o_190) .nil .nil) (.nil)) (.node (o_156) .nil .nil))) (.node (o_66) (.node (o_82) (.node (o_116) (.node (o_180) .nil .nil) (.nil)) (.node (o_148) .nil .nil)) (.node (o_98) (.node (o_132) (.node (tup0) .nil .nil) (.nil)) (.node (o_164) .nil .nil))))))
@[reducible] noncomputable def pr0 : Program := PySem.Challenge.rw_on0356_01.prog
@[reducible] noncomputable def mb0 : List Stmt := behindTheImports pr0
@[reducible] noncomputable def env0 : Env := { scope := pr0.main.scope, locals := mainNs, globals := mainNs, cells := [], code := .ref 13, frame := some 14 }
@[reducible] noncomputable def cd0 : Code := .body mb0 env0
@[reducible] noncomputable def p0 : Pos := ⟨0, 0, 0, 0⟩
@[reducible] noncomputable def sh (t : BT) (n k : Nat) (os : OsState) : SharedT := { tree := t, n := n, life := {}, gens := #[], drawn := {}, toks := k, os := os }
@[reducible] noncomputable def sB (w : World) (os : OsState) : Shared := ⟨boot_heap w.params, Array.mk [], boot_drawn, boot_toks, os⟩
noncomputable def pcs (a n : Nat) : List Stmt := (mb0.drop a).take n

theorem go_pre (w : World) (os : OsState) : topGo treeTable pr0 w 11 (some (.ref 6)) 12 (sB w os) (topStub pr0) = some ((sh (tr0 w.params) 15 187 os).abs, ⟨denote treeTable cd0, cd0, p0, [topFrame p0]⟩) := by kernel_rfl
theorem go_block (w : World) (os : OsState) : segRun treeTable pr0 w 11 (some (.ref 6)) 1 1 (sh (tr0 w.params) 15 187 os).abs (blockOf mb0 env0 cd0 p0 [topFrame p0]) = some (.next, (sh (tr0 w.params) 15 187 os).abs, cd0, p0) := by kernel_rfl
theorem go_1 (w : World) (os : OsState) : segRunT treeTable pr0 w 11 (some (.ref 6)) 1 264 (sh (tr0 w.params) 15 187 os) (piecesOf (pcs 0 2) env0 cd0 p0 [topFrame p0]) = some (.next, sh (tr1 w.params) 41 228 os, cd0, ⟨2, 0, 10, 68⟩) := by kernel_rfl
theorem go_2 (w : World) (os : OsState) : segRunT treeTable pr0 w 11 (some (.ref 6)) 1 122 (sh (tr1 w.params) 41 228 os) (piecesOf (pcs 2 4) env0 cd0 ⟨2, 0, 10, 68⟩ [topFrame p0]) = some (.next, sh (tr2 w.params) 67 263 os, cd0, ⟨32, 0, 42, 26⟩) := by kernel_rfl
theorem go_3 (w : World) (os : OsState) : segRunT treeTable pr0 w 11 (some (.ref 6)) 1 395 (sh (tr2 w.params) 67 263 os) (piecesOf (pcs 6 14) env0 cd0 ⟨32, 0, 42, 26⟩ [topFrame p0]) = some (.next, sh (tr3 w.params) 146 376 os, cd0, ⟨122, 0, 128, 74⟩) := by kernel_rfl
theorem go_4 (w : World) (os : OsState) : segRunT treeTable pr0 w 11 (some (.ref 6)) 1 112 (sh (tr3 w.params) 146 376 os) (piecesOf (pcs 20 4) env0 cd0 ⟨122, 0, 128, 74⟩ [topFrame p0]) = some (.next, sh (tr4 w.params) 168 405 os, cd0, ⟨145, 0, 176, 82⟩) := by kernel_rfl
theorem go_end (w : World) (os : OsState) : topRun treeTable pr0 w 11 (some (.ref 6)) 2 (sh (tr4 w.params) 168 405 os).abs ⟨doneF .next, cd0, ⟨145, 0, 176, 82⟩, [topFrame p0]⟩ = some (sh (tr4 w.params) 168 405 os).abs := by kernel_rfl
theorem go_cut : mb0 = pcs 0 2 ++ (pcs 2 4 ++ (pcs 6 14 ++ (pcs 20 4 ++ []))) := by kernel_rfl

theorem chain {tb : String → Option Builtin} {p : Program} {w : World} {n₀ : Nat} {ann : Option Value} {env : Env} {q : Pos} {b l₁ l₂ l₃ l₄ : List Stmt} {c : Code} {n₁ n₂ n₃ n₄ n₅ N : Nat} {s₁ s₂ s₃ s₄ s₅ s₆ r : Shared} {p₁ p₂ p₃ p₄ p₅ p₆ : Pos} (hb : b = l₁ ++ (l₂ ++ (l₃ ++ (l₄ ++ []))))
    (h₁ : segRun tb p w n₀ ann 1 n₁ s₁ (blockOf b env c p₁ [topFrame q]) = some (.next, s₂, c, p₂)) (h₂ : segRun tb p w n₀ ann 1 n₂ s₂ (piecesOf l₁ env c p₂ [topFrame q]) = some (.next, s₃, c, p₃))
    (h₃ : segRun tb p w n₀ ann 1 n₃ s₃ (piecesOf l₂ env c p₃ [topFrame q]) = some (.next, s₄, c, p₄)) (h₄ : segRun tb p w n₀ ann 1 n₄ s₄ (piecesOf l₃ env c p₄ [topFrame q]) = some (.next, s₅, c, p₅))
    (h₅ : segRun tb p w n₀ ann 1 n₅ s₅ (piecesOf l₄ env c p₅ [topFrame q]) = some (.next, s₆, c, p₆))
    (h₆ : topRun tb p w n₀ ann N s₆ ⟨doneF .next, c, p₆, [topFrame q]⟩ = some r) : topRun tb p w n₀ ann (n₁ + (n₂ + (n₃ + (n₄ + (n₅ + N))))) s₁ ⟨denote tb (.body b env), c, p₁, [topFrame q]⟩ = some r := by
  refine piece_block h₁ ?_
  rw [hb]
  exact piece_app h₂ (piece_app h₃ (piece_app h₄ (piece_app h₅ h₆)))

theorem go_all (w : World) (os : OsState) : topRun treeTable pr0 w 11 (some (.ref 6)) (12 + (1 + (264 + (122 + (395 + (112 + 2)))))) (sB w os) (topStub pr0) = some (sh (tr4 w.params) 168 405 os).abs :=
  go_top (go_pre w os) (chain go_cut (go_block w os) (segRun_of (go_1 w os)) (segRun_of (go_2 w os)) (segRun_of (go_3 w os)) (segRun_of (go_4 w os)) (go_end w os))
end Mine

namespace Mine
open PySem PySem.W PyProof.Rows
noncomputable def vw : Program := { PySem.Challenge.pw_on0356_01 with main := { PySem.Challenge.pw_on0356_01.main with body := PySem.Challenge.pw_on0356_01.main.body.filter fun s => match s with | .Assign .. => false | _ => true } }
noncomputable def H0 : Hook := kHook K0 [3, 27, 28, 32, 33, 35, 36] (fun _ => by kernel_rfl)
@[reducible] noncomputable def xt0 : Shared → Bool := fun s => xlAt vw [] s && recOk (RowW.records (OpenRow.toRowW (OpenLaw.row PySem.Challenge.rw_on0356_01))) s
@[reducible] noncomputable def hEnd (P : Params) : Heap := absHeap (tr4 P) 168 {}
@[reducible] noncomputable def sEnd (w : World) (os : OsState) : Shared := ⟨hEnd w.params, Array.mk [], {}, 405, os⟩
theorem opened (w : World) : (fencedOpening treeTable pr0 w 1904).map (fun s => (s.heap, s.gens, s.drawn, s.toks)) = some (boot_heap w.params, Array.mk [], boot_drawn, boot_toks) :=
  boot_open (by kernel_rfl) (by kernel_rfl) (fun s => by kernel_rfl) w
theorem size0 (w : World) : ((boot_heap w.params).isNs mainGlobals && (Array.mk [] : Array GenState).size == 0, (boot_heap w.params).objs.size, (boot_heap w.params).nsMap mainGlobals "__annotations__") = (true, 11, some (.ref 6)) := by kernel_rfl
theorem look1 (w : World) (os : OsState) : (staticsOk (importedModules pr0.main.body) (boot_heap w.params) (hEnd w.params) && namesBound pr0 (hEnd w.params) && gensDone (sEnd w os) && laidKept (boot_heap w.params) (hEnd w.params)) = true := by kernel_rfl
theorem look2 (w : World) (os : OsState) : openSeen vw [] (importedModules pr0.main.body) xt0 true (sEnd w os) = openGood vw [] := by kernel_rfl
theorem look3 (w : World) (os : OsState) : Hook.obs H0 (sEnd w os) = Hook.val H0 w := by kernel_rfl
theorem ran : LeftO PySem.Challenge.rw_on0356_01.prog vw [] xt0 (Hook.obs H0) (Hook.val H0) 1904 :=
  LeftO.of_pieces (H₀ := boot_heap) (H₁ := hEnd) (M := 12 + (1 + (264 + (122 + (395 + (112 + 2)))))) opened size0 go_all (by kernel_rfl) fun w => funext fun os => by rw [look1 w os, look2 w os, look3 w os]
end Mine
open PySem PySem.W PyProof.Rows
set_option maxRecDepth 100000 in
set_option maxHeartbeats 8000000 in
theorem PySem.Challenge.cw_on0356_01_holds : PySem.Challenge.rw_on0356_01.Holds := by
  w_on; o_law
  refine holds_open (q := Mine.vw) (loose := []) (Xt := fun s => xlAt Mine.vw [] s && recOk (RowW.records (OpenRow.toRowW (OpenLaw.row PySem.Challenge.rw_on0356_01))) s) (XP := XL Mine.vw []) (Yf := Hook.obs Mine.H0) (Ya := Hook.val Mine.H0) (YP := Hook.says Mine.H0) (N := 1904) ?hl (Hook.of Mine.H0) (Hook.keeps Mine.H0) (fun s e => xl_of s (Bool.and_eq_true_iff.mp e).1) XL.keeps (by rfl) (by rfl) (by rfl) (fun s e => recFacts_of (Bool.and_eq_true_iff.mp e).2) (by rfl) (by first | assumption | decide +kernel) (by decide +kernel) ⟨rfl, rfl, rfl, rfl, rfl, by decide +kernel⟩ ?hw ?hc
  case hw => w_witness2
  case hl => exact fun w => Mine.ran w
  w_strict (k_go0; (all_goals try k_fold))
  rename Frag.In _ _ => KX
  rename Top _ _ _ _ _ _ => T
  rename Fr _ _ _ _ => F
  rename News _ _ _ _ => N
  rename Heap.IsList _ _ _ => hl
  rename IntsAre _ _ => hi
  rename ¬ ((63 : Int) < _) => hlt
  rename _ = Data.cell _ => hwo
  rename _ = #[] => hg
  refine' Mine.law_top0 KX T (by kernel_rfl) ?e1 ?e2 ?e3 ?hr F ?hm hl hi ?hx N (hwo.trans ?hwo2) ?hQ
  case hx => exact Int.ofNat_le.mp (Int.not_lt.mp hlt)
  case e1 => rfl
  case e2 => rfl
  case e3 => rfl
  case hwo2 => rfl
  case hm => rfl
  case hr => exact ⟨rfl, by show 302 + 2 * 4 < 900; decide, by show 7 + 8 * 4 + 400 < 9900; decide⟩
  case hQ =>
    intro s' k e1 e2
    refine ⟨.inl ⟨.bool true, _, [], rfl, raisesW_false ?_, .bool true, ?_, unshared_nil⟩, k, e2, e1.trans hg⟩
    · wrow_none_raised
    · wrow_post
