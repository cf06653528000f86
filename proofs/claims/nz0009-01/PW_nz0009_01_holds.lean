import PyProof.Rows.All
import Wide.All
import OpenK.AllK
import Wide.FinOn
import PySem.Challenge.RW_nz0009_01
open PySem PySem.W PyProof.Rows PySem.Spec PySem.Calls
set_option Elab.async false
set_option maxRecDepth 100000
set_option maxHeartbeats 4000000

namespace Mine
noncomputable def Le (h h' : Heap) : Prop := ∀ b o, h.get? b = some o → h'.get? b = some o
theorem Le.refl (h : Heap) : Le h h := fun _ _ e => e
theorem Le.trans {a b c : Heap} (x : Le a b) (y : Le b c) : Le a c := fun p o e => y p o (x p o e)
theorem Le.push (h : Heap) (o : Obj) : Le h (h.push o) := fun _ _ e => Heap.get?_push_of_some o e

noncomputable def SeqAt (h : Heap) (a : Addr) : Prop := ∃ o xs n, h.get? a = some o ∧ o.data = .seq xs n
theorem SeqAt.up {h h' : Heap} {a : Addr} (x : SeqAt h a) (k : Le h h') : SeqAt h' a := let ⟨o, xs, n, e, q⟩ := x; ⟨o, xs, n, k _ _ e, q⟩
noncomputable def Rd (h : Heap) (v : Value) (d : PyData) : Prop := ∃ as, Reads h v d as ∧ ∀ a ∈ as, SeqAt h a
noncomputable def RdAll (h : Heap) (vs : List Value) (ds : List PyData) : Prop := ∃ as, ReadsAll h vs ds as ∧ ∀ a ∈ as, SeqAt h a
theorem Rd.up {h h' : Heap} {v : Value} {d : PyData} (r : Rd h v d) (k : Le h h') : Rd h' v d := let ⟨as, q, w⟩ := r; ⟨as, Reads.keeps k q, fun a ha => (w a ha).up k⟩
theorem RdAll.up {h h' : Heap} {v : List Value} {d : List PyData} (r : RdAll h v d) (k : Le h h') : RdAll h' v d := let ⟨as, q, w⟩ := r; ⟨as, ReadsAll.keeps k q, fun a ha => (w a ha).up k⟩
theorem RdAll.nil {h : Heap} : RdAll h [] [] := ⟨_, .nil, fun _ h => nomatch h⟩
theorem RdAll.cons {h : Heap} {v : Value} {d : PyData} {vs : List Value} {ds : List PyData} (x : Rd h v d) (y : RdAll h vs ds) : RdAll h (v :: vs) (d :: ds) :=
  let ⟨_, a, p⟩ := x; let ⟨_, b, q⟩ := y; ⟨_, .cons a b, fun c hc => (List.mem_append.mp hc).elim (p c) (q c)⟩
theorem RdAll.inv {h : Heap} {v : Value} {d : PyData} {vs : List Value} {ds : List PyData} (x : RdAll h (v :: vs) (d :: ds)) : Rd h v d ∧ RdAll h vs ds := by
  obtain ⟨_, q, w⟩ := x
  cases q with | cons a b => exact ⟨⟨_, a, fun c hc => w c (List.mem_append_left _ hc)⟩, ⟨_, b, fun c hc => w c (List.mem_append_right _ hc)⟩⟩
theorem RdAll.length {h : Heap} : ∀ {vs : List Value} {ds : List PyData}, RdAll h vs ds → vs.length = ds.length
  | [], [], _ => rfl
  | [], _ :: _, ⟨_, q, _⟩ => nomatch q
  | _ :: _, [], ⟨_, q, _⟩ => nomatch q
  | _ :: _, _ :: _, q => by rw [List.length_cons, List.length_cons, RdAll.length q.inv.2]
theorem RdAll.append {h : Heap} : ∀ {vs : List Value} {ds : List PyData} {ws : List Value} {es : List PyData}, RdAll h vs ds → RdAll h ws es → RdAll h (vs ++ ws) (ds ++ es)
  | [], [], _, _, _, y => y
  | [], _ :: _, _, _, ⟨_, q, _⟩, _ => nomatch q
  | _ :: _, [], _, _, ⟨_, q, _⟩, _ => nomatch q
  | _ :: _, _ :: _, _, _, x, y => RdAll.cons x.inv.1 (RdAll.append x.inv.2 y)
theorem RdAll.get {h : Heap} : ∀ {vs : List Value} {ds : List PyData} {j : Nat} {d : PyData}, RdAll h vs ds → ds[j]? = some d → ∃ v, vs[j]? = some v ∧ Rd h v d
  | [], [], _, _, _, e => by simp at e
  | [], _ :: _, _, _, ⟨_, q, _⟩, _ => nomatch q
  | _ :: _, [], _, _, ⟨_, q, _⟩, _ => nomatch q
  | v :: _, _ :: _, 0, _, x, e => by simp at e; subst e; exact ⟨v, rfl, x.inv.1⟩
  | _ :: _, _ :: _, j + 1, _, x, e => by
    obtain ⟨v, a, b⟩ := RdAll.get (j := j) x.inv.2 (by simpa using e)
    exact ⟨v, by simpa using a, b⟩
theorem RdAll.get' {h : Heap} : ∀ {vs : List Value} {ds : List PyData} {j : Nat} {v : Value}, RdAll h vs ds → vs[j]? = some v → ∃ d, ds[j]? = some d ∧ Rd h v d
  | [], [], _, _, _, e => by simp at e
  | [], _ :: _, _, _, ⟨_, q, _⟩, _ => nomatch q
  | _ :: _, [], _, _, ⟨_, q, _⟩, _ => nomatch q
  | _ :: _, d :: _, 0, _, x, e => by simp at e; subst e; exact ⟨d, rfl, x.inv.1⟩
  | _ :: _, _ :: _, j + 1, _, x, e => by
    obtain ⟨v, a, b⟩ := RdAll.get' (j := j) x.inv.2 (by simpa using e)
    exact ⟨v, by simpa using a, b⟩

theorem Rd.int {h : Heap} {v : Value} {i : Int} (r : Rd h v (.int i)) : ∃ t, v = .int i t := by obtain ⟨_, q, _⟩ := r; cases q; exact ⟨_, rfl⟩
theorem Rd.bool {h : Heap} {v : Value} {b : Bool} (r : Rd h v (.bool b)) : v = .bool b := by obtain ⟨_, q, _⟩ := r; cases q; rfl
theorem Rd.list {h : Heap} {v : Value} {l : List PyData} (r : Rd h v (.list l)) : ∃ a vs, v = .ref a ∧ h.IsList a vs ∧ RdAll h vs.toList l := by
  obtain ⟨_, q, w⟩ := r
  cases q with | list h1 h2 h3 h4 => exact ⟨_, _, rfl, ⟨_, h1, h2, _, h3⟩, ⟨_, h4, fun c hc => w c (.tail _ hc)⟩⟩
theorem Rd.tuple {h : Heap} {v : Value} {l : List PyData} (r : Rd h v (.tuple l)) : ∃ a vs, v = .ref a ∧ IsTup h a vs ∧ RdAll h vs.toList l := by
  obtain ⟨_, q, w⟩ := r
  cases q with | tuple h1 h2 h3 h4 => exact ⟨_, _, rfl, ⟨_, h1, h2, _, h3⟩, ⟨_, h4, w⟩⟩
theorem Rd.ofInt {h : Heap} (i : Int) (t : Tok) : Rd h (.int i t) (.int i) := ⟨_, .int i t, fun _ h => nomatch h⟩
theorem Rd.ofStr {h : Heap} (i : Str) (t : Tok) : Rd h (.str i t) (.str i) := ⟨_, .str i t, fun _ h => nomatch h⟩
theorem Rd.ofBool {h : Heap} (b : Bool) : Rd h (.bool b) (.bool b) := ⟨_, .bool b, fun _ h => nomatch h⟩
theorem Rd.ofNone {h : Heap} : Rd h .none .none := ⟨_, .none, fun _ h => nomatch h⟩
theorem Rd.ofList {h : Heap} {a : Addr} {vs : Array Value} {l : List PyData} (x : h.IsList a vs) (r : RdAll h vs.toList l) : Rd h (.ref a) (.list l) := by
  obtain ⟨o, h1, h2, n, h3⟩ := x
  obtain ⟨_, q, w⟩ := r
  refine ⟨_, .list h1 h2 h3 q, fun c hc => ?_⟩
  rcases List.mem_cons.mp hc with rfl | hc
  · exact ⟨o, vs, n, h1, h3⟩
  · exact w c hc
theorem Rd.ofTuple {h : Heap} {a : Addr} {vs : Array Value} {l : List PyData} (x : IsTup h a vs) (r : RdAll h vs.toList l) : Rd h (.ref a) (.tuple l) := by
  obtain ⟨o, h1, h2, n, h3⟩ := x
  obtain ⟨_, q, w⟩ := r
  exact ⟨_, .tuple h1 h2 h3 q, w⟩

noncomputable def Kb (h h' : Heap) (as : List Addr) : Prop := ∀ b o xs n, h.get? b = some o → o.data = .seq xs n → (o.cls = .type "tuple" ∨ b ∈ as) → h'.get? b = some o
theorem reads_but {h h' : Heap} {as : List Addr} {v : Value} {d : PyData} {bs : List Addr} (r : Reads h v d bs) : (∀ b ∈ bs, b ∈ as) → (∀ a ∈ as, SeqAt h a) → Kb h h' as → Reads h' v d bs := by
  intro s w k
  refine Reads.rec (motive_1 := fun v d bs _ => (∀ b ∈ bs, b ∈ as) → Reads h' v d bs) (motive_2 := fun v d bs _ => (∀ b ∈ bs, b ∈ as) → ReadsAll h' v d bs) (fun _ => .none) (fun b _ => .bool b) (fun i t _ => .int i t) (fun x t _ => .str x t)
    (fun h1 h2 h3 _ i s => .list (k _ _ _ _ h1 h3 (.inr (s _ (.head _)))) h2 h3 (i fun b hb => s b (.tail _ hb))) (fun h1 h2 h3 _ i s => .tuple (k _ _ _ _ h1 h3 (.inl h2)) h2 h3 (i s))
    (fun h1 _ h3 _ _ _ _ s => ?_) (fun _ => .nil) (fun _ _ i j s => .cons (i fun b hb => s b (List.mem_append_left _ hb)) (j fun b hb => s b (List.mem_append_right _ hb))) r s
  obtain ⟨o, xs, n, e, q⟩ := w _ (s _ (.head _))
  rw [h1] at e; cases e
  rw [h3] at q; cases q
theorem readsAll_but {h h' : Heap} {as : List Addr} {v : List Value} {d : List PyData} {bs : List Addr} (r : ReadsAll h v d bs) : (∀ b ∈ bs, b ∈ as) → (∀ a ∈ as, SeqAt h a) → Kb h h' as → ReadsAll h' v d bs := by
  intro s w k
  induction d generalizing v bs with
  | nil => cases r; exact .nil
  | cons x d ih =>
    cases r with | cons h1 h2 =>
    exact .cons (reads_but h1 (fun b hb => s b (List.mem_append_left _ hb)) w k) (ih h2 (fun b hb => s b (List.mem_append_right _ hb)))

noncomputable def imm : PyData → Bool
  | .list _ => false
  | .dict _ => false
  | .tuple xs => immAll xs
  | _ => true
where immAll : List PyData → Bool
  | [] => true
  | x :: xs => imm x && immAll xs
structure Wd where
  prog : Program
  w : World
  p : Program
  loose : List Str
  mean : ExcName → Option Value
  mg : Str → Option Value
  mb : Str → Option Value

noncomputable abbrev recs0 : List DefRec := recsOf PySem.Challenge.pw_nz0009_01
noncomputable def bnames : List Str := ["len", "max", "min", "sorted", "tuple", "list", "range", "abs", "int"]

structure Knows (W : Wd) : Prop where
  recs : recsOf W.p = recs0
  free : ∀ x ∈ bnames, W.mg x = none

structure OK (W : Wd) (A : Around) (fe : Env) (lev : Nat) (h : Heap) : Prop where
  knows : Knows W
  hand : A.handled = none
  kind : fe.scope.kind = .function
  depth : A.depth + lev < recursionLimit
  units : A.units + 10 * lev + 200 < cLine
  ctx : ∃ A₀ base h₀ outer L m, Below A₀ base outer h₀ ∧ Fr h₀ L h m ∧ A.frames = some (fe :: outer) ∧ fe.frame = some L ∧ Top W.p W.loose W.mean W.mg W.mb h₀

theorem OK.up {W : Wd} {A : Around} {fe : Env} {lev : Nat} {h h' : Heap} (x : OK W A fe lev h) (k : Le h h') : OK W A fe lev h' := by
  obtain ⟨A₀, base, h₀, outer, L, m, B, F, a, b, T⟩ := x.ctx
  exact ⟨x.knows, x.hand, x.kind, x.depth, x.units, A₀, base, h₀, outer, L, m, B, F.keeps k, a, b, T⟩
theorem OK.top {W : Wd} {A : Around} {fe : Env} {lev : Nat} {h : Heap} (x : OK W A fe lev h) : Top W.p W.loose W.mean W.mg W.mb h := by
  obtain ⟨A₀, base, h₀, outer, L, m, B, F, a, b, T⟩ := x.ctx
  exact T.keeps F.keep

noncomputable def HasVar (env : Env) (h : Heap) (x : Str) (v : Value) : Prop :=
  (x == ("__debug__" : Str)) = false ∧ (x == ("__classdict__" : Str)) = false ∧
  ((env.kindOf x = some .local ∧ ∃ m, h.Ns env.locals m ∧ m x = some v) ∨
   ((env.kindOf x = some .cell ∨ env.kindOf x = some .free) ∧ ∃ c, env.cells.lookup x = some c ∧ h.IsCell c (some v)))
theorem HasVar.up {env : Env} {h h' : Heap} {x : Str} {v : Value} (q : HasVar env h x v) (k : Le h h') : HasVar env h' x v := by
  obtain ⟨a, b, c⟩ := q
  refine ⟨a, b, ?_⟩
  rcases c with ⟨c1, m, c2, c3⟩ | ⟨c1, c, c2, c3⟩
  · exact .inl ⟨c1, m, c2.keeps k, c3⟩
  · exact .inr ⟨c1, c, c2, c3.keeps k⟩

structure Vars (env : Env) (ρ : List (Str × PyData)) (h : Heap) : Prop where
  kind : env.scope.kind = .function
  globs : env.globals = mainGlobals
  bltn : env.builtins = builtinsNs
  celled : ∀ x c, env.cells.lookup x = some c → ∃ v, h.IsCell c v
  vars : ∀ p ∈ ρ, ∃ v, HasVar env h p.1 v ∧ Rd h v p.2
theorem Vars.up {env : Env} {ρ : List (Str × PyData)} {h h' : Heap} (q : Vars env ρ h) (k : Le h h') : Vars env ρ h' :=
  ⟨q.kind, q.globs, q.bltn, fun x c e => let ⟨v, r⟩ := q.celled x c e; ⟨v, r.keeps k⟩, fun p hp => let ⟨v, a, b⟩ := q.vars p hp; ⟨v, a.up k, b.up k⟩⟩

section
variable (W : Wd) (A : Around) (fe : Env) (lev : Nat) (env : Env) (ρ : List (Str × PyData))

noncomputable def After (s : Shared) (P : Heap → Prop) (s' : Shared) : Prop := ∃ h' tk, s' = { s with heap := h', toks := tk } ∧ Le s.heap h' ∧ P h'

noncomputable def Ev (e : Expr) (d : PyData) : Prop :=
  ∀ (s : Shared) (Q : Value → Shared → Prop) (E : Value → Shared → Prop), OK W A fe lev s.heap → Vars env ρ s.heap →
    (∀ v h' tk, Le s.heap h' → Rd h' v d → Q v { s with heap := h', toks := tk }) → wpAny (model W.prog W.w) A (eval e env) Q E s
noncomputable def Ts (e : Expr) (b : Bool) : Prop :=
  ∀ (s : Shared) (Q : Bool → Shared → Prop) (E : Value → Shared → Prop), OK W A fe lev s.heap → Vars env ρ s.heap →
    (∀ h' tk, Le s.heap h' → Q b { s with heap := h', toks := tk }) → wpAny (model W.prog W.w) A (isTrue e env (eval e env)) Q E s
noncomputable def Evs (es : List Expr) (ds : List PyData) : Prop :=
  ∀ (pos : Pos) (s : Shared) (Q : List Value → Shared → Prop) (E : Value → Shared → Prop), OK W A fe lev s.heap → Vars env ρ s.heap →
    (∀ vs h' tk, Le s.heap h' → RdAll h' vs ds → Q vs { s with heap := h', toks := tk }) → wpAny (model W.prog W.w) A (spliced (backTo pos (starEach es env))) Q E s
noncomputable def Cl (f : Value) (ds : List PyData) (d : PyData) : Prop :=
  ∀ (vs : List Value) (s : Shared) (Q : Value → Shared → Prop) (E : Value → Shared → Prop), OK W A fe lev s.heap → RdAll s.heap vs ds →
    (∀ v h' tk, Le s.heap h' → Rd h' v d → Q v { s with heap := h', toks := tk }) → wpAny (model W.prog W.w) A (call f vs) Q E s
end

noncomputable def Fn (W : Wd) (n : Nat) (x : Str) (ds : List PyData) (d : PyData) : Prop :=
  ∀ (A : Around) (fe : Env) (lev : Nat) (f : Value), n < lev → W.mg x = some f → Cl W A fe lev f ds d

section
variable {W : Wd} {A : Around} {fe : Env} {lev : Nat} {env : Env} {ρ : List (Str × PyData)}

theorem Ev.toTs {e : Expr} {b : Bool} (x : Ev W A fe lev env ρ e (.bool b))
    (he : ∀ whole, isTrue e env whole = (do let v ← whole; standAt e.pos; holding [v] (truthy v)) := by intro _; rfl) : Ts W A fe lev env ρ e b := by
  intro s Q E ok hv k
  refine wpAny_isTrue_value (x s _ E ok hv fun v h' tk l r => ?_) (he _)
  obtain rfl := r.bool
  exact wpAny_truthy_bool (k _ _ l)

theorem ev_int {i : Int} {k : Nat} {pos : Pos} : Ev W A fe lev env ρ (.Constant (.int i) k pos) (.int i) :=
  fun s _ _ _ _ k => wpAny_Constant_int (k _ s.heap _ (Le.refl _) (Rd.ofInt _ _))
theorem ev_str {i : Str} {k : Nat} {pos : Pos} : Ev W A fe lev env ρ (.Constant (.str i) k pos) (.str i) :=
  fun s _ _ _ _ k => wpAny_Constant_str (k _ s.heap _ (Le.refl _) (Rd.ofStr _ _))
theorem ev_bool {i : Bool} {k : Nat} {pos : Pos} : Ev W A fe lev env ρ (.Constant (.bool i) k pos) (.bool i) :=
  fun s _ _ _ _ k => wpAny_Constant_bool (k _ s.heap _ (Le.refl _) (Rd.ofBool _))
theorem ev_none {k : Nat} {pos : Pos} : Ev W A fe lev env ρ (.Constant .none k pos) .none :=
  fun s _ _ _ _ k => wpAny_Constant_none (k _ s.heap _ (Le.refl _) Rd.ofNone)

theorem ev_name {x : Str} {pos : Pos} {d : PyData} (hm : (x, d) ∈ ρ) : Ev W A fe lev env ρ (.Name x pos) d := by
  intro s Q E ok hv k
  obtain ⟨v, ⟨h1, h2, h3⟩, r⟩ := hv.vars _ hm
  have fin : Q v s := k v s.heap s.toks (Le.refl _) r
  rcases h3 with ⟨a, m, b, c⟩ | ⟨a | a, c, b, q⟩
  · exact wpAny_Name (wpAny_loadName_local hv.kind a b c fin) h1
  · exact wpAny_Name (wpAny_loadName_cell hv.kind a b q fin) h1
  · exact wpAny_Name (wpAny_loadName_free hv.kind a b q fin h2) h1

theorem ev_neg {e : Expr} {i : Int} {pos : Pos} (x : Ev W A fe lev env ρ e (.int i)) : Ev W A fe lev env ρ (.UnaryOp .USub e pos) (.int (-i)) := by
  intro s Q E ok hv k
  refine wpAny_UnaryOp (x s _ E ok hv fun v h' tk l r => ?_)
  obtain ⟨t, rfl⟩ := r.int
  exact P.neg_int (k _ h' _ l (Rd.ofInt _ _))

noncomputable def Bo (W : Wd) (A : Around) (fe : Env) (lev : Nat) (op : Operator) (d₁ d₂ d : PyData) : Prop :=
  ∀ (v₁ v₂ : Value) (s : Shared) (Q : Value → Shared → Prop) (E : Value → Shared → Prop), OK W A fe lev s.heap → Rd s.heap v₁ d₁ → Rd s.heap v₂ d₂ →
    (∀ v h' tk, Le s.heap h' → Rd h' v d → Q v { s with heap := h', toks := tk }) → wpAny (model W.prog W.w) A (binaryOp op v₁ v₂) Q E s
theorem ev_bin {l r : Expr} {op : Operator} {pos : Pos} {d₁ d₂ d : PyData} (x : Ev W A fe lev env ρ l d₁) (y : Ev W A fe lev env ρ r d₂) (b : Bo W A fe lev op d₁ d₂ d) :
    Ev W A fe lev env ρ (.BinOp l op r pos) d := by
  intro s Q E ok hv k
  refine wpAny_BinOp (x s _ E ok hv fun v₁ h₁ t₁ l₁ r₁ => ?_)
  refine y _ _ E (ok.up l₁) (hv.up l₁) fun v₂ h₂ t₂ l₂ r₂ => ?_
  exact b v₁ v₂ _ _ E ((ok.up l₁).up l₂) (r₁.up l₂) r₂ fun v h' tk l r => k v h' tk ((l₁.trans l₂).trans l) r
theorem bo_add {a b : Int} : Bo W A fe lev .Add (.int a) (.int b) (.int (a + b)) := by
  intro v₁ v₂ s Q E ok r₁ r₂ k
  obtain ⟨t, rfl⟩ := r₁.int
  obtain ⟨u, rfl⟩ := r₂.int
  exact P.add_int (k _ s.heap _ (Le.refl _) (Rd.ofInt _ _))
theorem bo_sub {a b : Int} : Bo W A fe lev .Sub (.int a) (.int b) (.int (a - b)) := by
  intro v₁ v₂ s Q E ok r₁ r₂ k
  obtain ⟨t, rfl⟩ := r₁.int
  obtain ⟨u, rfl⟩ := r₂.int
  exact P.sub_int (k _ s.heap _ (Le.refl _) (Rd.ofInt _ _))
theorem bo_mod {a b : Int} (hb : b ≠ 0) : Bo W A fe lev .Mod (.int a) (.int b) (.int (a.fmod b)) := by
  intro v₁ v₂ s Q E ok r₁ r₂ k
  obtain ⟨t, rfl⟩ := r₁.int
  obtain ⟨u, rfl⟩ := r₂.int
  exact mod_int hb (k _ s.heap _ (Le.refl _) (Rd.ofInt _ _))

noncomputable def Co (W : Wd) (A : Around) (fe : Env) (lev : Nat) (op : CmpOp) (d₁ d₂ : PyData) (b : Bool) : Prop :=
  ∀ (v₁ v₂ : Value) (s : Shared) (Q : Value → Shared → Prop) (E : Value → Shared → Prop), OK W A fe lev s.heap → Rd s.heap v₁ d₁ → Rd s.heap v₂ d₂ →
    (∀ h' tk, Le s.heap h' → Q (.bool b) { s with heap := h', toks := tk }) → wpAny (model W.prog W.w) A (compareOp op v₁ v₂) Q E s
theorem ev_cmp {l r : Expr} {op : CmpOp} {pos : Pos} {d₁ d₂ : PyData} {b : Bool} (x : Ev W A fe lev env ρ l d₁) (y : Ev W A fe lev env ρ r d₂) (c : Co W A fe lev op d₁ d₂ b)
    (hm : behindInMarks op r = false := by with_unfolding_all rfl) : Ev W A fe lev env ρ (.Compare l [op] [r] pos) (.bool b) := by
  intro s Q E ok hv k
  refine wpAny_Compare1 (x s _ E ok hv fun v₁ h₁ t₁ l₁ r₁ => ?_) hm
  refine y _ _ E (ok.up l₁) (hv.up l₁) fun v₂ h₂ t₂ l₂ r₂ => ?_
  exact c v₁ v₂ _ _ E ((ok.up l₁).up l₂) (r₁.up l₂) r₂ fun h' tk l => k _ h' tk ((l₁.trans l₂).trans l) (Rd.ofBool _)
theorem ts_cmp {l r : Expr} {op : CmpOp} {pos : Pos} {d₁ d₂ : PyData} {b : Bool} (x : Ev W A fe lev env ρ l d₁) (y : Ev W A fe lev env ρ r d₂) (c : Co W A fe lev op d₁ d₂ b)
    (hm : behindInMarks op r = false := by with_unfolding_all rfl) : Ts W A fe lev env ρ (.Compare l [op] [r] pos) b := by
  intro s Q E ok hv k
  refine wpAny_isTrue_Compare1 (x s _ E ok hv fun v₁ h₁ t₁ l₁ r₁ => ?_) hm
  refine y _ _ E (ok.up l₁) (hv.up l₁) fun v₂ h₂ t₂ l₂ r₂ => ?_
  exact c v₁ v₂ _ _ E ((ok.up l₁).up l₂) (r₁.up l₂) r₂ fun h' tk l => wpAny_truthy_bool (k h' tk ((l₁.trans l₂).trans l))
theorem co_le {a b : Int} : Co W A fe lev .LtE (.int a) (.int b) (decide (a ≤ b)) := by
  intro v₁ v₂ s Q E ok r₁ r₂ k
  obtain ⟨t, rfl⟩ := r₁.int
  obtain ⟨u, rfl⟩ := r₂.int
  exact P.le_int (k s.heap _ (Le.refl _))
theorem co_lt {a b : Int} : Co W A fe lev .Lt (.int a) (.int b) (decide (a < b)) := by
  intro v₁ v₂ s Q E ok r₁ r₂ k
  obtain ⟨t, rfl⟩ := r₁.int
  obtain ⟨u, rfl⟩ := r₂.int
  exact P.lt_int (k s.heap _ (Le.refl _))
theorem co_gt {a b : Int} : Co W A fe lev .Gt (.int a) (.int b) (decide (a > b)) := by
  intro v₁ v₂ s Q E ok r₁ r₂ k
  obtain ⟨t, rfl⟩ := r₁.int
  obtain ⟨u, rfl⟩ := r₂.int
  exact P.gt_int (k s.heap _ (Le.refl _))
theorem co_ge {a b : Int} : Co W A fe lev .GtE (.int a) (.int b) (decide (a ≥ b)) := by
  intro v₁ v₂ s Q E ok r₁ r₂ k
  obtain ⟨t, rfl⟩ := r₁.int
  obtain ⟨u, rfl⟩ := r₂.int
  exact P.ge_int (k s.heap _ (Le.refl _))

noncomputable def pl (n : Nat) (d : PyData) : Prop := d.canLay0 = true ∧ d.depth ≤ n
theorem co_eq {a b : PyData} (ha : a.canLay0 = true) (hb : b.canLay0 = true) (hd : a.depth ≤ 100) : Co W A fe lev .Eq a b (PyData.eqv a b) := by
  intro v₁ v₂ s Q E ok ⟨_, r₁, _⟩ ⟨_, r₂, _⟩ k
  have hu := ok.units
  have hm := Nat.min_le_left a.depth b.depth
  exact SeqAt.compareEq_reads r₁ r₂ ha hb (by omega) (k s.heap _ (Le.refl _))
theorem co_ne {a b : PyData} (ha : a.canLay0 = true) (hb : b.canLay0 = true) (hd : a.depth ≤ 100) : Co W A fe lev .NotEq a b (!PyData.eqv a b) := by
  intro v₁ v₂ s Q E ok ⟨_, r₁, _⟩ ⟨_, r₂, _⟩ k
  have hu := ok.units
  have hm := Nat.min_le_left a.depth b.depth
  exact SeqAt.compareNe_reads r₁ r₂ ha hb (by omega) (k s.heap _ (Le.refl _))
theorem co_in {a : PyData} {l : List PyData} (ha : a.canLay0 = true) (hb : PyData.canLayAll0 l = true) (hd : a.depth ≤ 100) : Co W A fe lev .In a (.list l) (l.any fun y => PyData.eqv y a) := by
  intro v₁ v₂ s Q E ok ⟨_, r₁, _⟩ ⟨_, r₂, _⟩ k
  have hu := ok.units
  have hm := Nat.min_le_right (PyData.depthAll l) a.depth
  exact SeqAt.in_list_reads r₂ r₁ hb ha (by omega) (k s.heap _ (Le.refl _))
theorem co_inT {a : PyData} {l : List PyData} (ha : a.canLay0 = true) (hb : PyData.canLayAll0 l = true) (hd : a.depth ≤ 100) : Co W A fe lev .In a (.tuple l) (l.any fun y => PyData.eqv y a) := by
  intro v₁ v₂ s Q E ok ⟨_, r₁, _⟩ ⟨_, r₂, _⟩ k
  have hu := ok.units
  have hm := Nat.min_le_right (PyData.depthAll l) a.depth
  exact SeqAt.in_tuple_reads r₂ r₁ hb ha (by omega) (k s.heap _ (Le.refl _))
theorem co_notIn {a : PyData} {l : List PyData} (ha : a.canLay0 = true) (hb : PyData.canLayAll0 l = true) (hd : a.depth ≤ 100) : Co W A fe lev .NotIn a (.list l) (!l.any fun y => PyData.eqv y a) := by
  intro v₁ v₂ s Q E ok ⟨_, r₁, _⟩ ⟨_, r₂, _⟩ k
  have hu := ok.units
  have hm := Nat.min_le_right (PyData.depthAll l) a.depth
  exact SeqAt.notIn_list_reads r₂ r₁ hb ha (by omega) (k s.heap _ (Le.refl _))

theorem ts_not {e : Expr} {b : Bool} {pos : Pos} (x : Ts W A fe lev env ρ e b) : Ts W A fe lev env ρ (.UnaryOp .Not e pos) (!b) :=
  fun s _ E ok hv k => wpAny_isTrue_Not (x s _ E ok hv fun h' tk l => k h' tk l)

noncomputable def TsA (W : Wd) (A : Around) (fe : Env) (lev : Nat) (env : Env) (ρ : List (Str × PyData)) (op : BoolOp) (es : List Expr) (b : Bool) : Prop :=
  ∀ (s : Shared) (Q : Bool → Shared → Prop) (E : Value → Shared → Prop), OK W A fe lev s.heap → Vars env ρ s.heap →
    (∀ h' tk, Le s.heap h' → Q b { s with heap := h', toks := tk }) → wpAny (model W.prog W.w) A (allTrue op es env) Q E s
theorem tsa_and_nil : TsA W A fe lev env ρ .And [] true := fun s _ _ _ _ k => wpAny_allTrue_And_nil (k s.heap s.toks (Le.refl _))
theorem tsa_or_nil : TsA W A fe lev env ρ .Or [] false := fun s _ _ _ _ k => wpAny_allTrue_Or_nil (k s.heap s.toks (Le.refl _))
theorem tsa_and {e : Expr} {es : List Expr} {b c : Bool} (x : Ts W A fe lev env ρ e b) (y : b = true → TsA W A fe lev env ρ .And es c) : TsA W A fe lev env ρ .And (e :: es) (b && c) := by
  intro s Q E ok hv k
  refine wpAny_allTrue_And_cons (x s _ E ok hv fun h' tk l => ?_)
  cases b with
  | false => exact k h' tk l
  | true => exact y rfl _ _ E (ok.up l) (hv.up l) fun h'' tk' l' => k h'' tk' (l.trans l')
theorem tsa_or {e : Expr} {es : List Expr} {b c : Bool} (x : Ts W A fe lev env ρ e b) (y : b = false → TsA W A fe lev env ρ .Or es c) : TsA W A fe lev env ρ .Or (e :: es) (b || c) := by
  intro s Q E ok hv k
  refine wpAny_allTrue_Or_cons (x s _ E ok hv fun h' tk l => ?_)
  cases b with
  | true => exact k h' tk l
  | false => exact y rfl _ _ E (ok.up l) (hv.up l) fun h'' tk' l' => k h'' tk' (l.trans l')
theorem ts_bool {op : BoolOp} {es : List Expr} {b : Bool} {pos : Pos} (x : TsA W A fe lev env ρ op es b) : Ts W A fe lev env ρ (.BoolOp op es pos) b :=
  fun s _ E ok hv k => wpAny_isTrue_BoolOp (x s _ E ok hv k)

theorem ev_and {x y : Expr} {b c : Bool} {pos : Pos} (hx : Ev W A fe lev env ρ x (.bool b)) (hy : b = true → Ev W A fe lev env ρ y (.bool c)) : Ev W A fe lev env ρ (.BoolOp .And [x, y] pos) (.bool (b && c)) := by
  intro s Q E ok hv k
  refine wpAny_And2 (hx s _ E ok hv fun v h' tk l r => ?_)
  obtain rfl := r.bool
  refine wpAny_truthy_bool ?_
  cases b with
  | false => exact k _ h' tk l (Rd.ofBool _)
  | true => exact hy rfl _ _ E (ok.up l) (hv.up l) fun v h'' tk' l' r' => k v h'' tk' (l.trans l') r'
theorem ev_or {x y : Expr} {b c : Bool} {pos : Pos} (hx : Ev W A fe lev env ρ x (.bool b)) (hy : b = false → Ev W A fe lev env ρ y (.bool c)) : Ev W A fe lev env ρ (.BoolOp .Or [x, y] pos) (.bool (b || c)) := by
  intro s Q E ok hv k
  refine wpAny_Or2 (hx s _ E ok hv fun v h' tk l r => ?_)
  obtain rfl := r.bool
  refine wpAny_truthy_bool ?_
  cases b with
  | true => exact k _ h' tk l (Rd.ofBool _)
  | false => exact hy rfl _ _ E (ok.up l) (hv.up l) fun v h'' tk' l' r' => k v h'' tk' (l.trans l') r'
theorem ev_ite {t x y : Expr} {b : Bool} {d : PyData} {pos : Pos} (ht : Ts W A fe lev env ρ t b) (hx : b = true → Ev W A fe lev env ρ x d) (hy : b = false → Ev W A fe lev env ρ y d) :
    Ev W A fe lev env ρ (.IfExp t x y pos) d := by
  intro s Q E ok hv k
  refine wpAny_IfExp (ht s _ E ok hv fun h' tk l => ?_)
  cases b with
  | true => exact hx rfl _ _ E (ok.up l) (hv.up l) fun v h'' tk' l' r' => k v h'' tk' (l.trans l') r'
  | false => exact hy rfl _ _ E (ok.up l) (hv.up l) fun v h'' tk' l' r' => k v h'' tk' (l.trans l') r'

theorem evs_nil : Evs W A fe lev env ρ [] [] := fun _ s _ _ _ _ k => spliced_none (k [] s.heap s.toks (Le.refl _) RdAll.nil)
theorem evs_cons {e : Expr} {es : List Expr} {d : PyData} {ds : List PyData} (x : Ev W A fe lev env ρ e d) (y : Evs W A fe lev env ρ es ds)
    (he : starEach (e :: es) env = (false, eval e env) :: starEach es env := by rfl) : Evs W A fe lev env ρ (e :: es) (d :: ds) := by
  intro pos s Q E ok hv k
  refine spliced_more (x s _ E ok hv fun v h' tk l r => ?_) he
  exact y pos _ _ E (ok.up l) (hv.up l) fun vs h'' tk' l' r' => k (v :: vs) h'' tk' (l.trans l') (RdAll.cons (r.up l') r')

theorem newTuple_rd {vs : List Value} {ds : List PyData} {s : Shared} {Q : Value → Shared → Prop} {E : Value → Shared → Prop} (r : RdAll s.heap vs ds) (hsz : vs.length ≤ sizeLine)
    (k : ∀ v h' tk, Le s.heap h' → Rd h' v (.tuple ds) → Q v { s with heap := h', toks := tk }) : wpAny (model W.prog W.w) A (newTuple vs) Q E s :=
  wpAny_newObj_type (k _ _ s.toks (Le.push _ _) (Rd.ofTuple (vs := vs.toArray) ⟨_, Heap.get?_push_size _ rfl, rfl, _, rfl⟩ (r.up (Le.push _ _)))) (by show vs.toArray.size ≤ sizeLine; rw [List.size_toArray]; exact hsz)
theorem newList_rd {vs : List Value} {ds : List PyData} {s : Shared} {Q : Value → Shared → Prop} {E : Value → Shared → Prop} (r : RdAll s.heap vs ds) (hsz : vs.length ≤ sizeLine)
    (k : ∀ v h' tk, Le s.heap h' → Rd h' v (.list ds) → Q v { s with heap := h', toks := tk }) : wpAny (model W.prog W.w) A (newList vs) Q E s :=
  wpAny_newObj_type (k _ _ s.toks (Le.push _ _) (Rd.ofList (vs := vs.toArray) ⟨_, Heap.get?_push_size _ rfl, rfl, _, rfl⟩ (r.up (Le.push _ _)))) (by show vs.toArray.size ≤ sizeLine; rw [List.size_toArray]; exact hsz)
theorem ev_tuple {es : List Expr} {ds : List PyData} {k : Nat} {pos : Pos} (x : Evs W A fe lev env ρ es ds) (hsz : ds.length ≤ sizeLine := by decide) : Ev W A fe lev env ρ (.Tuple es k pos) (.tuple ds) := by
  intro s Q E ok hv k
  refine Tuple_ (x pos s _ E ok hv fun vs h' tk l r => ?_)
  exact newTuple_rd r (by rw [r.length]; exact hsz) fun v h'' tk' l' r' => k v h'' tk' (l.trans l') r'
theorem ev_list {es : List Expr} {ds : List PyData} {pos : Pos} (x : Evs W A fe lev env ρ es ds) (hsz : ds.length ≤ sizeLine := by decide) : Ev W A fe lev env ρ (.List es pos) (.list ds) := by
  intro s Q E ok hv k
  refine List_ (x pos s _ E ok hv fun vs h' tk l r => ?_)
  exact newList_rd r (by rw [r.length]; exact hsz) fun v h'' tk' l' r' => k v h'' tk' (l.trans l') r'
end
section
variable {W : Wd} {A : Around} {fe : Env} {lev : Nat} {env : Env} {ρ : List (Str × PyData)}

theorem ev_itemT {value slice : Expr} {pos : Pos} {l : List PyData} {k : Int} {j : Nat} {d : PyData} (x : Ev W A fe lev env ρ value (.tuple l)) (y : Ev W A fe lev env ρ slice (.int k))
    (hj : seqIndex? k l.length = some j) (hd : l[j]? = some d) (hlo : -(2 ^ 63) ≤ k) (hhi : k < 2 ^ 63)
    (hs : ∀ o i, subscripted slice false o i = operate [o, i] (getItem o i) := by intro _ _; rfl) : Ev W A fe lev env ρ (.Subscript value slice pos) d := by
  intro s Q E ok hv k'
  refine Subscript_ (x s _ E ok hv fun v h' tk l₁ r => ?_)
  refine y _ _ E (ok.up l₁) (hv.up l₁) fun v₂ h₂ t₂ l₂ r₂ => ?_
  obtain ⟨a, vs, rfl, ht, hr⟩ := (r.up l₂).tuple
  obtain ⟨t, rfl⟩ := r₂.int
  obtain ⟨v, hv1, hv2⟩ := hr.get hd
  have hlen : vs.size = l.length := by have := hr.length; simpa using this
  refine tail_any (Q := Q) ht.typeIs slot_tuple_getitem.lookup (getItem_tuple ht hlo hhi (j := j) (by rw [hlen]; exact hj) (by simpa using hv1) ?_) (hs _ _)
  exact k' v h₂ t₂ (l₁.trans l₂) hv2
theorem ev_itemL {value slice : Expr} {pos : Pos} {l : List PyData} {k : Int} {d : PyData} (x : Ev W A fe lev env ρ value (.list l)) (y : Ev W A fe lev env ρ slice (.int k))
    (h0 : 0 ≤ k) (hd : l[k.toNat]? = some d) (hhi : k < 2 ^ 63)
    (hs : ∀ o i, subscripted slice false o i = operate [o, i] (getItem o i) := by intro _ _; rfl) : Ev W A fe lev env ρ (.Subscript value slice pos) d := by
  intro s Q E ok hv k'
  refine Subscript_ (x s _ E ok hv fun v h' tk l₁ r => ?_)
  refine y _ _ E (ok.up l₁) (hv.up l₁) fun v₂ h₂ t₂ l₂ r₂ => ?_
  obtain ⟨a, vs, rfl, ht, hr⟩ := (r.up l₂).list
  obtain ⟨t, rfl⟩ := r₂.int
  obtain ⟨v, hv1, hv2⟩ := hr.get hd
  refine tail_any (Q := Q) ht.typeIs slot_list_getitem.lookup (wpAny_getItem_list ht h0 hhi (x := v) (by simpa using hv1) ?_) (hs _ _)
  exact k' v h₂ t₂ (l₁.trans l₂) hv2
theorem ev_itemLneg {value slice : Expr} {pos : Pos} {l : List PyData} {k : Int} {d : PyData} (x : Ev W A fe lev env ρ value (.list l)) (y : Ev W A fe lev env ρ slice (.int k))
    (h0 : k < 0) (h1 : -(l.length : Int) ≤ k) (hd : l[(k + l.length).toNat]? = some d) (hhi : -(2 ^ 63) ≤ k)
    (hs : ∀ o i, subscripted slice false o i = operate [o, i] (getItem o i) := by intro _ _; rfl) : Ev W A fe lev env ρ (.Subscript value slice pos) d := by
  intro s Q E ok hv k'
  refine Subscript_ (x s _ E ok hv fun v h' tk l₁ r => ?_)
  refine y _ _ E (ok.up l₁) (hv.up l₁) fun v₂ h₂ t₂ l₂ r₂ => ?_
  obtain ⟨a, vs, rfl, ht, hr⟩ := (r.up l₂).list
  obtain ⟨t, rfl⟩ := r₂.int
  have hlen : vs.size = l.length := by have := hr.length; simpa using this
  obtain ⟨v, hv1, hv2⟩ := hr.get hd
  refine tail_any (Q := Q) ht.typeIs slot_list_getitem.lookup (wpAny_getItem_list_neg ht h0 (by rw [hlen]; exact h1) hhi (x := v) (by rw [hlen]; simpa using hv1) ?_) (hs _ _)
  exact k' v h₂ t₂ (l₁.trans l₂) hv2

theorem rdAll_take {h : Heap} : ∀ {vs : List Value} {ds : List PyData} (n : Nat), RdAll h vs ds → RdAll h (vs.take n) (ds.take n)
  | [], [], _, x => by simpa using x
  | [], _ :: _, _, ⟨_, q, _⟩ => nomatch q
  | _ :: _, [], _, ⟨_, q, _⟩ => nomatch q
  | _ :: _, _ :: _, 0, _ => by simpa using RdAll.nil
  | _ :: _, _ :: _, n + 1, x => by simpa using RdAll.cons x.inv.1 (rdAll_take n x.inv.2)
theorem rdAll_drop {h : Heap} : ∀ {vs : List Value} {ds : List PyData} (n : Nat), RdAll h vs ds → RdAll h (vs.drop n) (ds.drop n)
  | [], [], _, x => by simpa using x
  | [], _ :: _, _, ⟨_, q, _⟩ => nomatch q
  | _ :: _, [], _, ⟨_, q, _⟩ => nomatch q
  | _ :: _, _ :: _, 0, x => by simpa using x
  | _ :: _, _ :: _, n + 1, x => by simpa using rdAll_drop n x.inv.2

theorem pick_upto (items : Array Value) (n : Nat) : slicePick items none (some (n : Int)) none = (items.toList.take n).toArray := by
  by_cases h : n ≤ items.size
  · exact slicePick_upto items n h
  · have e : slicePick items none (some (n : Int)) none = slicePick items none (some (items.size : Int)) none := by
      simp only [slicePick, sliceBounds, Option.getD_none]
      have h1 : ¬ ((n : Int) < 0) := by omega
      have h2 : ¬ ((items.size : Int) < 0) := by omega
      have h3 : min (n : Int) (items.size : Int) = items.size := by omega
      simp [h1, h2, h3]
    rw [e, slicePick_upto items items.size (Nat.le_refl _)]
    rw [List.take_of_length_le (by simp), List.take_of_length_le (by simp; omega)]

theorem ev_sliceTo {value e : Expr} {p pos : Pos} {l : List PyData} {n : Nat} (x : Ev W A fe lev env ρ value (.list l)) (y : Ev W A fe lev env ρ e (.int n)) (hsz : l.length ≤ sizeLine) :
    Ev W A fe lev env ρ (.Subscript value (.Slice none (some e) none p) pos) (.list (l.take n)) := by
  intro s Q E ok hv k'
  refine Subscript_ (x s _ E ok hv fun v h' tk l₁ r => ?_)
  refine wpAny_Slice (wpAny_pure ?_)
  refine y _ _ E (ok.up l₁) (hv.up l₁) fun v₂ h₂ t₂ l₂ r₂ => ?_
  refine wpAny_pure ?_
  have r' := r.up l₂
  obtain ⟨a, vs, rfl, ht, hr⟩ := r'.list
  obtain ⟨t, rfl⟩ := r₂.int
  have hlen : vs.size = l.length := by have := hr.length; simpa using this
  refine tail_any (Q := Q) (T := "list") (Heap.IsList.typeIs (ht.push _)) slot_list_getitem.lookup
    (wpAny_getItem_list_slice (ht.push _) (Heap.IsSliceOf.new ..) .none (.int _ _) .none (by simp) ?_ (by rw [hlen]; exact hsz)) rfl
  rw [pick_upto]
  refine k' _ _ t₂ ((l₁.trans l₂).trans ((Le.push _ _).trans (Le.push _ _))) (Rd.ofList (vs := (vs.toList.take n).toArray) ⟨_, Heap.get?_push_size _ rfl, rfl, _, rfl⟩ ?_)
  simpa using rdAll_take n (hr.up ((Le.push h₂ _).trans (Le.push _ _)))
theorem ev_sliceFrom {value e : Expr} {p pos : Pos} {l : List PyData} {n : Nat} (x : Ev W A fe lev env ρ value (.list l)) (y : Ev W A fe lev env ρ e (.int n)) (hsz : l.length ≤ sizeLine) :
    Ev W A fe lev env ρ (.Subscript value (.Slice (some e) none none p) pos) (.list (l.drop n)) := by
  intro s Q E ok hv k'
  refine Subscript_ (x s _ E ok hv fun v h' tk l₁ r => ?_)
  refine wpAny_Slice ?_
  refine y _ _ E (ok.up l₁) (hv.up l₁) fun v₂ h₂ t₂ l₂ r₂ => ?_
  refine wpAny_pure (wpAny_pure ?_)
  have r' := r.up l₂
  obtain ⟨a, vs, rfl, ht, hr⟩ := r'.list
  obtain ⟨t, rfl⟩ := r₂.int
  have hlen : vs.size = l.length := by have := hr.length; simpa using this
  refine tail_any (Q := Q) (T := "list") (Heap.IsList.typeIs (ht.push _)) slot_list_getitem.lookup
    (wpAny_getItem_list_slice (ht.push _) (Heap.IsSliceOf.new ..) (.int _ _) .none .none (by simp) ?_ (by rw [hlen]; exact hsz)) rfl
  rw [slicePick_from']
  refine k' _ _ t₂ ((l₁.trans l₂).trans ((Le.push _ _).trans (Le.push _ _))) (Rd.ofList (vs := (vs.toList.drop n).toArray) ⟨_, Heap.get?_push_size _ rfl, rfl, _, rfl⟩ ?_)
  simpa using rdAll_drop n (hr.up ((Le.push h₂ _).trans (Le.push _ _)))

theorem bo_addL {l m : List PyData} (hsz : l.length + m.length ≤ sizeLine) : Bo W A fe lev .Add (.list l) (.list m) (.list (l ++ m)) := by
  intro v₁ v₂ s Q E ok r₁ r₂ k
  obtain ⟨a, vs, rfl, ha, hr⟩ := r₁.list
  obtain ⟨b, ws, rfl, hb, hq⟩ := r₂.list
  have e1 : vs.size = l.length := by have := hr.length; simpa using this
  have e2 : ws.size = m.length := by have := hq.length; simpa using this
  obtain ⟨⟨cls, dd, data, sl⟩, ho, hc, n, hd⟩ := id ha
  obtain ⟨⟨cls2, dd2, data2, sl2⟩, ho2, hc2, n2, hd2⟩ := id hb
  simp only at hc hd hc2 hd2
  subst hc hd hc2 hd2
  refine concat_meets ⟨_, ho, rfl⟩ ⟨_, ho2, rfl⟩ noFill_list_add seq_list_add PySem.F.slot_list_add PySem.F.entry_list_add (PySem.F.args_list_add_2 _ _) (list_addW a b vs ws n n2 dd dd2 sl sl2 (by omega)) ⟨ho, ho2, ?_⟩
  refine k _ _ s.toks (Le.push _ _) (Rd.ofList (vs := vs ++ ws) ⟨_, Heap.get?_push_size _ rfl, rfl, _, rfl⟩ ?_)
  rw [Array.toList_append]
  exact (hr.append hq).up (Le.push _ _)
theorem bo_addT {l m : List PyData} (hsz : l.length + m.length ≤ sizeLine) : Bo W A fe lev .Add (.tuple l) (.tuple m) (.tuple (l ++ m)) := by
  intro v₁ v₂ s Q E ok r₁ r₂ k
  obtain ⟨a, vs, rfl, ha, hr⟩ := r₁.tuple
  obtain ⟨b, ws, rfl, hb, hq⟩ := r₂.tuple
  have e1 : vs.size = l.length := by have := hr.length; simpa using this
  have e2 : ws.size = m.length := by have := hq.length; simpa using this
  have i1 : vs.isEmpty = true ↔ l = [] := by
    rw [Array.isEmpty_iff_size_eq_zero, e1]; exact List.length_eq_zero_iff
  have i2 : ws.isEmpty = true ↔ m = [] := by
    rw [Array.isEmpty_iff_size_eq_zero, e2]; exact List.length_eq_zero_iff
  have ra := Rd.ofTuple ha hr
  have rb := Rd.ofTuple hb hq
  obtain ⟨⟨cls, dd, data, sl⟩, ho, hc, n, hd⟩ := id ha
  obtain ⟨⟨cls2, dd2, data2, sl2⟩, ho2, hc2, n2, hd2⟩ := id hb
  simp only at hc hd hc2 hd2
  subst hc hd hc2 hd2
  by_cases hl : l = []
  · refine concat_meets ⟨_, ho, rfl⟩ ⟨_, ho2, rfl⟩ noFill_tuple_add seq_tuple_add PySem.F.slot_tuple_add PySem.F.entry_tuple_add (PySem.F.args_tuple_add_2 _ _)
      (tuple_addW0 a b vs ws n n2 dd dd2 sl sl2 (i1.mpr hl)) ⟨ho, ho2, k _ s.heap s.toks (Le.refl _) (by rw [hl, List.nil_append]; exact rb)⟩
  · have h1 : ¬ vs.isEmpty = true := fun hx => hl (i1.mp hx)
    by_cases hm : m = []
    · refine concat_meets ⟨_, ho, rfl⟩ ⟨_, ho2, rfl⟩ noFill_tuple_add seq_tuple_add PySem.F.slot_tuple_add PySem.F.entry_tuple_add (PySem.F.args_tuple_add_2 _ _)
        (tuple_addW1 a b vs ws n n2 dd dd2 sl sl2 h1 (i2.mpr hm)) ⟨ho, ho2, k _ s.heap s.toks (Le.refl _) (by rw [hm, List.append_nil]; exact ra)⟩
    · have h2 : ¬ ws.isEmpty = true := fun hx => hm (i2.mp hx)
      refine concat_meets ⟨_, ho, rfl⟩ ⟨_, ho2, rfl⟩ noFill_tuple_add seq_tuple_add PySem.F.slot_tuple_add PySem.F.entry_tuple_add (PySem.F.args_tuple_add_2 _ _)
        (tuple_addW2 a b vs ws n n2 dd dd2 sl sl2 h1 h2 (by omega)) ⟨ho, ho2, ?_⟩
      refine k _ _ s.toks (Le.push _ _) (Rd.ofTuple (vs := vs ++ ws) ⟨_, Heap.get?_push_size _ rfl, rfl, _, rfl⟩ ?_)
      rw [Array.toList_append]
      exact (hr.append hq).up (Le.push _ _)

theorem top_fn {h : Heap} (T : Top W.p W.loose W.mean W.mg W.mb h) (kn : Knows W) {r : DefRec} (hr : r ∈ recs0) :
    ∃ a o pm code doc, W.mg r.name = some (.ref a) ∧ h.get? a = some o ∧ o.data = .func (docDef r.name r.params r.body r.scope pm code doc) ∧ h.CodeRec code r.name :=
  T.fn r (by rw [kn.recs]; exact hr)
theorem ev_call {x : Str} {np pos : Pos} {e : Expr} {es : List Expr} {ds : List PyData} {d : PyData} {n : Nat} (r : DefRec) (hr : r ∈ recs0) (hx : r.name = x) (hk : env.kindOf x = some .globalImplicit)
    (ha : Evs W A fe lev env ρ (e :: es) ds) (f : Fn W n x ds d) (hn : n < lev)
    (hd : (x == ("__debug__" : Str)) = false := by decide) (he : starEach (e :: es) env = (false, eval e env) :: starEach es env := by rfl) : Ev W A fe lev env ρ (.Call (.Name x np) (e :: es) [] pos) d := by
  intro s Q E ok hv k
  subst hx
  have T := ok.top
  obtain ⟨a, o, pm, code, doc, h1, h2, h3, h4⟩ := top_fn T ok.knows hr
  refine PyProof.Rows.Call_ (Name_function_global hv.kind hk (loadGlobal_global (by rw [hv.globs]; exact T.g) h1 ?_) hd)
  refine callWith_function (o := o) (fd := docDef r.name r.params r.body r.scope pm code doc) ?_
  have ha' := ha pos
  rw [he] at ha' ⊢
  refine evalArgs_plain (ha' s _ E ok hv fun vs h' tk l rr => ⟨⟨l _ _ h2, h3⟩, ?_⟩)
  exact f A fe lev (.ref a) hn h1 vs _ _ E (ok.up l) rr fun v h'' tk' l' r' => k v h'' tk' (l.trans l') r'
theorem ev_callB {x : Str} {id : String} {np pos : Pos} {e : Expr} {es : List Expr} {ds : List PyData} {d : PyData} (hk : env.kindOf x = some .globalImplicit) (hb : x ∈ bnames) (hv' : bootBuiltins x = some (.builtin id))
    (ha : Evs W A fe lev env ρ (e :: es) ds) (f : Cl W A fe lev (.builtin id) ds d)
    (hd : (x == ("__debug__" : Str)) = false := by decide) (hn : x ≠ "__name__" := by decide) (he : starEach (e :: es) env = (false, eval e env) :: starEach es env := by rfl) (hpl : ∀ pos, (backTo pos (starEach es env)).any (·.1) = false := by intro _; rfl) :
    Ev W A fe lev env ρ (.Call (.Name x np) (e :: es) [] pos) d := by
  intro s Q E ok hv k
  have T := ok.top
  refine PyProof.Rows.Call_ (Name_function_global hv.kind hk (loadGlobal_builtin (by rw [hv.globs]; exact T.g) (ok.knows.free x hb) (by rw [hv.bltn]; exact T.b) ((T.builtins x hn).trans hv') ?_) hd)
  refine PyProof.Rows.callWith_builtin1 (ha pos s _ E ok hv fun vs h' tk l rr => ?_) he (hpl _)
  exact f vs _ _ E (ok.up l) rr fun v h'' tk' l' r' => k v h'' tk' (l.trans l') r'
theorem ev_callT {x : Str} {id : String} {np pos : Pos} {e : Expr} {es : List Expr} {ds : List PyData} {d : PyData} (hk : env.kindOf x = some .globalImplicit) (hb : x ∈ bnames) (hv' : bootBuiltins x = some (.type id))
    (ha : Evs W A fe lev env ρ (e :: es) ds) (f : Cl W A fe lev (.type id) ds d)
    (hd : (x == ("__debug__" : Str)) = false := by decide) (hn : x ≠ "__name__" := by decide) (he : starEach (e :: es) env = (false, eval e env) :: starEach es env := by rfl) (hpl : ∀ pos, (backTo pos (starEach es env)).any (·.1) = false := by intro _; rfl) :
    Ev W A fe lev env ρ (.Call (.Name x np) (e :: es) [] pos) d := by
  intro s Q E ok hv k
  have T := ok.top
  refine PyProof.Rows.Call_ (Name_function_global hv.kind hk (loadGlobal_builtin (by rw [hv.globs]; exact T.g) (ok.knows.free x hb) (by rw [hv.bltn]; exact T.b) ((T.builtins x hn).trans hv') ?_) hd)
  refine PyProof.Rows.callWith_type1 (ha pos s _ E ok hv fun vs h' tk l rr => ?_) he (hpl _)
  exact f vs _ _ E (ok.up l) rr fun v h'' tk' l' r' => k v h'' tk' (l.trans l') r'

theorem rdAll1 {h : Heap} {vs : List Value} {d : PyData} (r : RdAll h vs [d]) : ∃ v, vs = [v] ∧ Rd h v d := by
  match vs, r with
  | [], ⟨_, q, _⟩ => nomatch q
  | [v], r => exact ⟨v, rfl, r.inv.1⟩
  | _ :: _ :: _, r => exact absurd r.length (by simp)
theorem rdAll2 {h : Heap} {vs : List Value} {d d' : PyData} (r : RdAll h vs [d, d']) : ∃ v v', vs = [v, v'] ∧ Rd h v d ∧ Rd h v' d' := by
  match vs, r with
  | [], ⟨_, q, _⟩ => nomatch q
  | v :: vs, r =>
    obtain ⟨v', rfl, r'⟩ := rdAll1 r.inv.2
    exact ⟨v, v', rfl, r.inv.1, r'⟩

theorem cl_len {l : List PyData} (hsz : l.length ≤ sizeLine) : Cl W A fe lev (.builtin "len") [.list l] (.int l.length) := by
  intro vs s Q E ok r k
  obtain ⟨v, rfl, rv⟩ := rdAll1 r
  obtain ⟨a, its, rfl, ha, hr⟩ := rv.list
  have e1 : its.size = l.length := by have := hr.length; simpa using this
  have hb : sizeLine < 2 ^ 62 := by decide
  refine call_len_list ha (by omega) ?_
  rw [e1]
  exact k _ s.heap _ (Le.refl _) (Rd.ofInt _ _)
theorem cl_lenT {l : List PyData} (hsz : l.length ≤ sizeLine) : Cl W A fe lev (.builtin "len") [.tuple l] (.int l.length) := by
  intro vs s Q E ok r k
  obtain ⟨v, rfl, rv⟩ := rdAll1 r
  obtain ⟨a, its, rfl, ha, hr⟩ := rv.tuple
  have e1 : its.size = l.length := by have := hr.length; simpa using this
  have hb : sizeLine < 2 ^ 62 := by decide
  refine len_tuple ha (by omega) ?_
  rw [e1]
  exact k _ s.heap _ (Le.refl _) (Rd.ofInt _ _)
theorem cl_max {a b : Int} : Cl W A fe lev (.builtin "max") [.int a, .int b] (.int (if b > a then b else a)) := by
  intro vs s Q E ok r k
  obtain ⟨v, v', rfl, r1, r2⟩ := rdAll2 r
  obtain ⟨t, rfl⟩ := r1.int
  obtain ⟨u, rfl⟩ := r2.int
  refine max_two_ints ok.hand fun h' tk l => ?_
  split
  · rename_i c; exact k _ h' tk l (by rw [if_pos c]; exact Rd.ofInt _ _)
  · rename_i c; exact k _ h' tk l (by rw [if_neg c]; exact Rd.ofInt _ _)
theorem cl_min {a b : Int} : Cl W A fe lev (.builtin "min") [.int a, .int b] (.int (if b < a then b else a)) := by
  intro vs s Q E ok r k
  obtain ⟨v, v', rfl, r1, r2⟩ := rdAll2 r
  obtain ⟨t, rfl⟩ := r1.int
  obtain ⟨u, rfl⟩ := r2.int
  refine min_two_ints ok.hand fun h' tk l => ?_
  split
  · rename_i c; exact k _ h' tk l (by rw [if_pos c]; exact Rd.ofInt _ _)
  · rename_i c; exact k _ h' tk l (by rw [if_neg c]; exact Rd.ofInt _ _)
theorem cl_abs {a : Int} : Cl W A fe lev (.builtin "abs") [.int a] (.int (if a < 0 then -a else a)) := by
  intro vs s Q E ok r k
  obtain ⟨v, rfl, r1⟩ := rdAll1 r
  obtain ⟨t, rfl⟩ := r1.int
  exact call_abs_int fun u tk => k _ s.heap tk (Le.refl _) (Rd.ofInt _ _)
theorem cl_intB {b : Bool} : Cl W A fe lev (.type "int") [.bool b] (.int (if b then 1 else 0)) := by
  intro vs s Q E ok r k
  obtain ⟨v, rfl, r1⟩ := rdAll1 r
  obtain rfl := r1.bool
  exact call_int_bool (k _ s.heap _ (Le.refl _) (Rd.ofInt _ _))
theorem cl_tuple {l : List PyData} (hsz : l.length ≤ sizeLine) : Cl W A fe lev (.type "tuple") [.list l] (.tuple l) := by
  intro vs s Q E ok r k
  obtain ⟨v, rfl, rv⟩ := rdAll1 r
  obtain ⟨a, its, rfl, ha, hr⟩ := rv.list
  have e1 : its.size = l.length := by have := hr.length; simpa using this
  refine call_tuple_list ha (fun h' l' => ?_) (by omega)
  refine k _ _ s.toks (Le.trans l' (Le.push _ _)) (Rd.ofTuple (vs := its) ⟨_, Heap.get?_push_size _ rfl, rfl, _, rfl⟩ ?_)
  exact hr.up (Le.trans l' (Le.push _ _))
end
inductive Ent where
  | val (d : PyData)
  | own (a : Addr) (ds : List PyData)
  | src (a : Addr) (k : Nat × Addr)
noncomputable abbrev Rho := List (Str × Ent)

noncomputable def vals : Rho → List (Str × PyData)
  | [] => []
  | (x, .val d) :: r => (x, d) :: vals r
  | (x, .own _ ds) :: r => (x, .list ds) :: vals r
  | (_, .src _ _) :: r => vals r
noncomputable def dropOwn : Rho → Rho
  | [] => []
  | (_, .own _ _) :: r => dropOwn r
  | p :: r => p :: dropOwn r
noncomputable def dropSrc : Rho → Rho
  | [] => []
  | (_, .src _ _) :: r => dropSrc r
  | p :: r => p :: dropSrc r
theorem of_vals : ∀ {ρ : Rho} {x : Str} {d : PyData}, (x, d) ∈ vals ρ → (x, Ent.val d) ∈ ρ ∨ ∃ a ds, (x, Ent.own a ds) ∈ ρ ∧ d = .list ds
  | (y, .val d') :: r, x, d, h => by
    rcases List.mem_cons.mp h with e | h
    · cases e; exact .inl (.head _)
    · rcases of_vals h with q | ⟨a, ds, q, e⟩
      · exact .inl (.tail _ q)
      · exact .inr ⟨a, ds, .tail _ q, e⟩
  | (y, .own a' ds') :: r, x, d, h => by
    rcases List.mem_cons.mp h with e | h
    · cases e; exact .inr ⟨_, _, .head _, rfl⟩
    · rcases of_vals h with q | ⟨a, ds, q, e⟩
      · exact .inl (.tail _ q)
      · exact .inr ⟨a, ds, .tail _ q, e⟩
  | (y, .src _ _) :: r, x, d, h => by
    rcases of_vals (ρ := r) h with q | ⟨a, ds, q, e⟩
    · exact .inl (.tail _ q)
    · exact .inr ⟨a, ds, .tail _ q, e⟩
theorem of_dropOwn : ∀ {ρ : Rho} {p : Str × Ent}, p ∈ dropOwn ρ → p ∈ ρ ∧ ∀ a ds, p.2 ≠ .own a ds
  | (y, .val d') :: r, p, h => by
    rcases List.mem_cons.mp h with e | h
    · subst e; exact ⟨.head _, fun _ _ e => nomatch e⟩
    · exact ⟨.tail _ (of_dropOwn h).1, (of_dropOwn h).2⟩
  | (y, .own a' ds') :: r, p, h => ⟨.tail _ (of_dropOwn (ρ := r) h).1, (of_dropOwn (ρ := r) h).2⟩
  | (y, .src _ _) :: r, p, h => by
    rcases List.mem_cons.mp h with e | h
    · subst e; exact ⟨.head _, fun _ _ e => nomatch e⟩
    · exact ⟨.tail _ (of_dropOwn h).1, (of_dropOwn h).2⟩
theorem of_dropSrc : ∀ {ρ : Rho} {p : Str × Ent}, p ∈ dropSrc ρ → p ∈ ρ ∧ ∀ a ds, p.2 ≠ .src a ds
  | (y, .val d') :: r, p, h => by
    rcases List.mem_cons.mp h with e | h
    · subst e; exact ⟨.head _, fun _ _ e => nomatch e⟩
    · exact ⟨.tail _ (of_dropSrc h).1, (of_dropSrc h).2⟩
  | (y, .src a' ds') :: r, p, h => ⟨.tail _ (of_dropSrc (ρ := r) h).1, (of_dropSrc (ρ := r) h).2⟩
  | (y, .own _ _) :: r, p, h => by
    rcases List.mem_cons.mp h with e | h
    · subst e; exact ⟨.head _, fun _ _ e => nomatch e⟩
    · exact ⟨.tail _ (of_dropSrc h).1, (of_dropSrc h).2⟩

noncomputable def RdOff (M : List Addr) (h : Heap) (v : Value) (d : PyData) : Prop := ∃ as, Reads h v d as ∧ ∀ a ∈ as, SeqAt h a ∧ a ∉ M
theorem RdOff.rd {M : List Addr} {h : Heap} {v : Value} {d : PyData} (r : RdOff M h v d) : Rd h v d := let ⟨as, q, w⟩ := r; ⟨as, q, fun a ha => (w a ha).1⟩
theorem Rd.off {h : Heap} {v : Value} {d : PyData} (r : Rd h v d) : RdOff [] h v d := let ⟨as, q, w⟩ := r; ⟨as, q, fun a ha => ⟨w a ha, fun h => nomatch h⟩⟩
theorem imm_as {h : Heap} {v : Value} {d : PyData} {as : List Addr} (r : Reads h v d as) : imm d = true → as = [] := by
  refine Reads.rec (motive_1 := fun _ d as _ => imm d = true → as = []) (motive_2 := fun _ d as _ => imm.immAll d = true → as = []) (fun _ => rfl) (fun _ _ => rfl) (fun _ _ _ => rfl) (fun _ _ _ => rfl)
    (fun _ _ _ _ _ e => Bool.noConfusion e) (fun _ _ _ _ i e => i e) (fun _ _ _ _ _ _ _ e => Bool.noConfusion e) (fun _ => rfl) (fun _ _ i j e => ?_) r
  have e := Bool.and_eq_true_iff.mp e
  rw [i e.1, j e.2]; rfl
theorem immAll_as {h : Heap} {v : List Value} {d : List PyData} {as : List Addr} (r : ReadsAll h v d as) : imm.immAll d = true → as = [] := by
  induction d generalizing v as with
  | nil => intro _; cases r; rfl
  | cons x d ih =>
    intro e
    cases r with | cons h1 h2 =>
    have e := Bool.and_eq_true_iff.mp e
    rw [imm_as h1 e.1, ih h2 e.2]; rfl
theorem Rd.offI {M : List Addr} {h : Heap} {v : Value} {d : PyData} (r : Rd h v d) (e : imm d = true) : RdOff M h v d := by
  obtain ⟨as, q, w⟩ := r
  have := imm_as q e
  subst this
  exact ⟨[], q, fun _ h => nomatch h⟩

noncomputable def IsSrc (W : Wd) (M : List Addr) (h : Heap) (a : Addr) (k : Nat × Addr) : Prop :=
  ∃ c t vs ns, h.DictOf (strKind W.prog W.w) a [(Str.ofString "cells", .ref c), (Str.ofString "spot", .int (k.1 : Int) t)] ∧ c ∉ M ∧ h.IsList c vs ∧ IntsAre vs.toList ns ∧ ns ≠ [] ∧ ns.length ≤ 51 ∧ (∀ n ∈ ns, 0 ≤ n ∧ n < 1000003) ∧ c = k.2

noncomputable def EntIs (W : Wd) (M : List Addr) (h : Heap) (v : Value) : Ent → Prop
  | .val d => RdOff M h v d
  | .own a ds => v = .ref a ∧ a ∈ M ∧ ∃ vs, h.PlainList a vs ∧ ReadsAll h vs.toList ds []
  | .src a k => v = .ref a ∧ a ∈ M ∧ IsSrc W M h a k

theorem dictOf_at {prog : Program} {w : World} {h h' : Heap} {a : Addr} {kvs : List (Str × Value)} (x : h.DictOf (strKind prog w) a kvs) (k : ∀ o, h.get? a = some o → h'.get? a = some o) : h'.DictOf (strKind prog w) a kvs :=
  let ⟨o, es, ep, e, r⟩ := x; ⟨o, es, ep, k o e, r⟩
theorem dictOf_ex {prog : Program} {w : World} {h : Heap} {a : Addr} {kvs : List (Str × Value)} (x : h.DictOf (strKind prog w) a kvs) : ∃ o es ep, h.get? a = some o ∧ o.data = .dict es ep :=
  let ⟨o, es, ep, e, _, q, _⟩ := x; ⟨o, es, ep, e, q⟩

theorem EntIs.but {W : Wd} {M : List Addr} {h h' : Heap} {v : Value} {x : Addr} (hx : ¬ SeqAt h x) (hM : x ∉ M) (k : ∀ b o, b ≠ x → h.get? b = some o → h'.get? b = some o) :
    ∀ {e : Ent}, EntIs W M h v e → EntIs W M h' v e
  | .val d, ⟨as, r, w⟩ => by
    have sq : ∀ b, SeqAt h b → SeqAt h' b := fun b hb => by
      have hne : b ≠ x := fun e => hx (e ▸ hb)
      obtain ⟨o, xs, n, e, q⟩ := hb
      exact ⟨o, xs, n, k b o hne e, q⟩
    refine ⟨as, reads_but r (fun _ h => h) (fun a ha => (w a ha).1) fun b o xs n e q _ => k b o (fun e' => hx ⟨o, xs, n, e' ▸ e, q⟩) e, fun a ha => ⟨sq a (w a ha).1, (w a ha).2⟩⟩
  | .own a ds, ⟨e, ha, vs, p, r⟩ => by
    have hne : a ≠ x := fun e => hM (e ▸ ha)
    exact ⟨e, ha, vs, p.at fun o e => k a o hne e, readsAll_but r (fun _ h => h) (fun _ h => nomatch h) fun b o xs n e q _ => k b o (fun e' => hx ⟨o, xs, n, e' ▸ e, q⟩) e⟩
  | .src a n, ⟨e, ha, c, t, vs, ns, d, hc, hl, r⟩ => by
    have hne : a ≠ x := fun e => hM (e ▸ ha)
    refine ⟨e, ha, c, t, vs, ns, dictOf_at d fun o e => k a o hne e, hc, ?_, r⟩
    obtain ⟨o, e1, e2, m, e3⟩ := hl
    exact ⟨o, k c o (fun e' => hx ⟨o, vs, m, e' ▸ e1, e3⟩) e1, e2, m, e3⟩
theorem EntIs.up {W : Wd} {M : List Addr} {h h' : Heap} {v : Value} (k : Le h h') : ∀ {e : Ent}, EntIs W M h v e → EntIs W M h' v e
  | .val d, ⟨as, r, w⟩ => ⟨as, Reads.keeps k r, fun a ha => ⟨(w a ha).1.up k, (w a ha).2⟩⟩
  | .own a ds, ⟨e, ha, vs, p, r⟩ => ⟨e, ha, vs, p.at fun o e => k _ o e, ReadsAll.keeps k r⟩
  | .src a n, ⟨e, ha, c, t, vs, ns, d, hc, hl, r⟩ => by
    refine ⟨e, ha, c, t, vs, ns, dictOf_at d fun o e => k a o e, hc, ?_, r⟩
    obtain ⟨o, e1, q⟩ := hl
    exact ⟨o, k c o e1, q⟩

structure St (W : Wd) (A : Around) (fe : Env) (lev : Nat) (g : Heap) (M : List Addr) (ρ : Rho) (h : Heap) : Prop where
  knows : Knows W
  hand : A.handled = none
  kind : fe.scope.kind = .function
  depth : A.depth + lev < recursionLimit
  units : A.units + 10 * lev + 200 < cLine
  globs : fe.globals = mainGlobals
  bltn : fe.builtins = builtinsNs
  frame : fe.frame = some fe.locals
  ctx : ∃ A₀ base outer, Below A₀ base outer g ∧ A.frames = some (fe :: outer)
  top : Top W.p W.loose W.mean W.mg W.mb g
  fr : ∃ m, Fr g fe.locals h m
  cells : ∀ x c, fe.cells.lookup x = some c → g.get? c = none ∧ c ≠ fe.locals ∧ ∃ v, h.IsCell c v
  apart : ∀ x y c, fe.cells.lookup x = some c → fe.cells.lookup y = some c → x = y
  mov : ∀ a ∈ M, g.get? a = none ∧ a ≠ fe.locals ∧ ∃ o, h.get? a = some o ∧ (∀ v, o.data ≠ .cell v) ∧ o.cls ≠ .type "tuple"
  ents : ∀ p ∈ ρ, ∃ v, HasVar fe h p.1 v ∧ EntIs W M h v p.2

noncomputable def Fp (fe : Env) (M : List Addr) (h h' : Heap) : Prop := ∀ b o, h.get? b = some o → b ≠ fe.locals → (∀ x, fe.cells.lookup x ≠ some b) → b ∉ M → h'.get? b = some o
theorem Fp.refl {fe : Env} {M : List Addr} (h : Heap) : Fp fe M h h := fun _ _ e _ _ _ => e
theorem Fp.trans {fe : Env} {M : List Addr} {a b c : Heap} (x : Fp fe M a b) (y : Fp fe M b c) : Fp fe M a c := fun p o e h1 h2 h3 => y p o (x p o e h1 h2 h3) h1 h2 h3
theorem Fp.of {fe : Env} {M : List Addr} {a b : Heap} (x : Le a b) : Fp fe M a b := fun p o e _ _ _ => x p o e

section
variable {W : Wd} {A : Around} {fe : Env} {lev : Nat} {g : Heap} {M : List Addr} {ρ ρ' : Rho} {h h' : Heap}
theorem St.ok (S : St W A fe lev g M ρ h) : OK W A fe lev h := by
  obtain ⟨A₀, base, outer, B, hA⟩ := S.ctx
  obtain ⟨m, F⟩ := S.fr
  exact ⟨S.knows, S.hand, S.kind, S.depth, S.units, A₀, base, g, outer, fe.locals, m, B, F, hA, S.frame, S.top⟩
theorem St.vars (S : St W A fe lev g M ρ h) : Vars fe (vals ρ) h := by
  refine ⟨S.kind, S.globs, S.bltn, fun x c e => let ⟨_, _, v, r⟩ := S.cells x c e; ⟨v, r⟩, fun p hp => ?_⟩
  rcases of_vals (x := p.1) (d := p.2) hp with q | ⟨a, ds, q, e⟩
  · obtain ⟨v, hv, r⟩ := S.ents _ q
    exact ⟨v, hv, r.rd⟩
  · obtain ⟨v, hv, rfl, _, vs, pl, r⟩ := S.ents _ q
    exact ⟨_, hv, by rw [e]; exact Rd.ofList pl.isList ⟨_, r, fun _ h => nomatch h⟩⟩
theorem St.sub (S : St W A fe lev g M ρ h) (k : ∀ p ∈ ρ', p ∈ ρ) : St W A fe lev g M ρ' h :=
  { S with ents := fun p hp => S.ents p (k p hp) }
theorem St.up (S : St W A fe lev g M ρ h) (k : Le h h') : St W A fe lev g M ρ h' :=
  { S with
    fr := let ⟨m, F⟩ := S.fr; ⟨m, F.keeps k⟩
    cells := fun x c e => let ⟨a, b, v, r⟩ := S.cells x c e; ⟨a, b, v, r.keeps k⟩
    mov := fun a ha => let ⟨p, q, o, e, r⟩ := S.mov a ha; ⟨p, q, o, k _ _ e, r⟩
    ents := fun p hp => let ⟨v, a, b⟩ := S.ents p hp; ⟨v, a.up k, b.up k⟩ }
theorem St.le (S : St W A fe lev g M ρ h) : Le g h := let ⟨_, F⟩ := S.fr; F.keep

theorem ns_not_seq {a : Addr} {m : Str → Option Value} (n : h.Ns a m) : ¬ SeqAt h a := fun ⟨o, xs, k, e, q⟩ => by
  obtain ⟨o', es, ep, e', d, _⟩ := n
  rw [e] at e'; cases e'
  rw [q] at d; cases d
theorem cell_not_seq {a : Addr} {v : Option Value} (n : h.IsCell a v) : ¬ SeqAt h a := fun ⟨o, xs, k, e, q⟩ => by
  obtain ⟨o', e', d⟩ := n
  rw [e] at e'; cases e'
  rw [q] at d; cases d
theorem ns_not_cell {a : Addr} {m : Str → Option Value} {v : Option Value} (n : h.Ns a m) (c : h.IsCell a v) : False := by
  obtain ⟨o', es, ep, e', d, _⟩ := n
  obtain ⟨o, e, q⟩ := c
  rw [e] at e'; cases e'
  rw [q] at d; cases d

theorem RdOff.fp {v : Value} {d : PyData} (S : St W A fe lev g M ρ h) (f : Fp fe M h h') (r : RdOff M h v d) : RdOff M h' v d := by
  obtain ⟨m, F⟩ := S.fr
  have key : ∀ b o xs n, h.get? b = some o → o.data = .seq xs n → (o.cls = .type "tuple" ∨ b ∉ M) → h'.get? b = some o := fun b o xs n e q c => by
    refine f b o e (fun e' => ns_not_seq F.ns ⟨o, xs, n, e' ▸ e, q⟩) (fun y hy => ?_) (fun hm => ?_)
    · obtain ⟨_, _, v, ci⟩ := S.cells y b hy
      exact cell_not_seq ci ⟨o, xs, n, e, q⟩
    · rcases c with c | c
      · obtain ⟨_, _, o', e', _, c'⟩ := S.mov b hm
        rw [e] at e'; cases e'
        exact c' c
      · exact c hm
  obtain ⟨as, q, w⟩ := r
  refine ⟨as, reads_but q (fun _ h => h) (fun a ha => (w a ha).1) fun b o xs n e q c => key b o xs n e q (c.imp id fun hb => (w b hb).2), fun a ha => ⟨?_, (w a ha).2⟩⟩
  obtain ⟨o, xs, n, e, q⟩ := (w a ha).1
  exact ⟨o, xs, n, key a o xs n e q (.inr (w a ha).2), q⟩

theorem St.storeE {x : Str} {v : Value} {e : Ent} {s : Shared} {Q : Unit → Shared → Prop} {E : Value → Shared → Prop} (S : St W A fe lev g M ρ s.heap)
    (hk : fe.kindOf x = some .local ∨ (fe.kindOf x = some .cell ∧ (fe.cells.lookup x).isSome = true)) (hv : EntIs W M s.heap v e) (hx : (ρ.all fun p => p.1 != x) = true)
    (h1 : (x == ("__debug__" : Str)) = false) (h2 : (x == ("__classdict__" : Str)) = false)
    (k : ∀ h' tk, Fp fe M s.heap h' → (∀ u e', EntIs W M s.heap u e' → EntIs W M h' u e') → St W A fe lev g M ((x, e) :: ρ) h' → Q () { s with heap := h', toks := tk }) : wpAny (model W.prog W.w) A (storeName fe x v) Q E s := by
  obtain ⟨m, F⟩ := S.fr
  have ne : ∀ p ∈ ρ, p.1 ≠ x := fun p hp => by have := List.all_eq_true.mp hx p hp; simpa using this
  have hL : g.get? fe.locals = none := Heap.get?_none_of_le F.above
  rcases hk with hk | ⟨hk, hc⟩
  · refine wpAny_storeName_local hk F.ns (fun h' hn hs => k h' _ (fun b o e1 hb _ _ => hs.extBut b o hb e1) (fun u e' r => r.but (ns_not_seq F.ns) (fun hm => (S.mov _ hm).2.1 rfl) fun b o hb e => hs.extBut b o hb e) ?_) (by rw [S.kind]; rfl)
    have up : ∀ b o, b ≠ fe.locals → s.heap.get? b = some o → h'.get? b = some o := fun b o hb e => hs.extBut b o hb e
    have nsq := ns_not_seq F.ns
    have nM : fe.locals ∉ M := fun hm => (S.mov _ hm).2.1 rfl
    refine { S with fr := ⟨_, F.set hn hs⟩, cells := fun y c e => ?_, mov := fun a ha => ?_, ents := fun p hp => ?_ }
    · obtain ⟨a, b, v, r⟩ := S.cells y c e
      exact ⟨a, b, v, r.sameBut hs b⟩
    · obtain ⟨p, q, o, e, r⟩ := S.mov a ha
      exact ⟨p, q, o, up _ _ q e, r⟩
    · rcases List.mem_cons.mp hp with rfl | hp
      · exact ⟨v, ⟨h1, h2, .inl ⟨hk, _, hn, by simp⟩⟩, hv.but nsq nM up⟩
      · obtain ⟨u, ⟨a1, a2, a3⟩, r⟩ := S.ents p hp
        refine ⟨u, ⟨a1, a2, ?_⟩, r.but nsq nM up⟩
        rcases a3 with ⟨b1, m', b2, b3⟩ | ⟨b1, c, b2, b3⟩
        · refine .inl ⟨b1, _, hn, ?_⟩
          have em : m' p.1 = m p.1 := by
            have e1 := b2.eq_nsMap
            have e2 := F.ns.eq_nsMap
            rw [e1, e2]
          simp only [ne p hp, if_false]
          rw [← em]; exact b3
        · obtain ⟨_, c2, _⟩ := S.cells _ _ b2
          exact .inr ⟨b1, c, b2, b3.sameBut hs c2⟩
  · obtain ⟨c, hc⟩ := Option.isSome_iff_exists.mp hc
    obtain ⟨cg, cL, v₀, ci⟩ := S.cells x c hc
    refine wpAny_storeName_cell S.kind hk hc ci fun h' hi hs => ?_
    have up : ∀ b o, b ≠ c → s.heap.get? b = some o → h'.get? b = some o := fun b o hb e => hs.extBut b o hb e
    have nsq := cell_not_seq ci
    have nM : c ∉ M := fun hm => by
      obtain ⟨_, _, o, e, r⟩ := S.mov _ hm
      obtain ⟨o', e', d⟩ := ci
      rw [e] at e'; cases e'
      exact r.1 _ d
    have hn : h'.Ns fe.locals m := F.ns.sameBut hs (Ne.symm cL)
    refine k h' s.toks (fun b o e1 _ hb _ => up b o (fun e => hb x (e ▸ hc)) e1) (fun u e' r => r.but nsq nM up) { S with fr := ⟨m, hn, fun b o e1 => up b o (fun q => by rw [q, cg] at e1; cases e1) (F.keep b o e1), F.above⟩, cells := fun y c' e => ?_, mov := fun a ha => ?_, ents := fun p hp => ?_ }
    · obtain ⟨a, b, w, r⟩ := S.cells y c' e
      by_cases hcc : c' = c
      · exact ⟨a, b, _, hcc ▸ hi⟩
      · exact ⟨a, b, w, r.sameBut hs hcc⟩
    · obtain ⟨p, q, o, e, r⟩ := S.mov a ha
      exact ⟨p, q, o, up _ _ (fun e => nM (e ▸ ha)) e, r⟩
    · rcases List.mem_cons.mp hp with rfl | hp
      · exact ⟨v, ⟨h1, h2, .inr ⟨.inl hk, c, hc, hi⟩⟩, hv.but nsq nM up⟩
      · obtain ⟨u, ⟨a1, a2, a3⟩, r⟩ := S.ents p hp
        refine ⟨u, ⟨a1, a2, ?_⟩, r.but nsq nM up⟩
        rcases a3 with ⟨b1, m', b2, b3⟩ | ⟨b1, c', b2, b3⟩
        · exact .inl ⟨b1, m', b2.sameBut hs (Ne.symm cL), b3⟩
        · have hcc : c' ≠ c := fun e => ne p hp (S.apart _ _ c (e ▸ b2) hc)
          exact .inr ⟨b1, c', b2, b3.sameBut hs hcc⟩
theorem St.store {x : Str} {v : Value} {e : Ent} {s : Shared} {Q : Unit → Shared → Prop} {E : Value → Shared → Prop} (S : St W A fe lev g M ρ s.heap)
    (hk : fe.kindOf x = some .local ∨ (fe.kindOf x = some .cell ∧ (fe.cells.lookup x).isSome = true)) (hv : EntIs W M s.heap v e) (hx : (ρ.all fun p => p.1 != x) = true)
    (h1 : (x == ("__debug__" : Str)) = false) (h2 : (x == ("__classdict__" : Str)) = false)
    (k : ∀ h' tk, Fp fe M s.heap h' → St W A fe lev g M ((x, e) :: ρ) h' → Q () { s with heap := h', toks := tk }) : wpAny (model W.prog W.w) A (storeName fe x v) Q E s :=
  S.storeE hk hv hx h1 h2 fun h' tk f _ S' => k h' tk f S'
end
section
variable (W : Wd) (A : Around) (fe : Env) (lev : Nat) (g : Heap) (M : List Addr)
noncomputable def Ex1 (ρ : Rho) (st : Stmt) (Nx : Rho → Prop) (Rt : Rho → PyData → Prop) : Prop :=
  ∀ (s : Shared) (Q : Flow → Shared → Prop) (E : Value → Shared → Prop), St W A fe lev g M ρ s.heap →
    (∀ ρ' h' tk, Nx ρ' → Fp fe M s.heap h' → St W A fe lev g M ρ' h' → Q .next { s with heap := h', toks := tk }) →
    (∀ v d ρ' h' tk, Rt ρ' d → St W A fe lev g M ρ' h' → Rd h' v d → Q (.ret v) { s with heap := h', toks := tk }) → wpAny (model W.prog W.w) A (exec st fe) Q E s
noncomputable def Ex (ρ : Rho) (ss : List Stmt) (Nx : Rho → Prop) (Rt : Rho → PyData → Prop) : Prop :=
  ∀ (s : Shared) (Q : Flow → Shared → Prop) (E : Value → Shared → Prop), St W A fe lev g M ρ s.heap →
    (∀ ρ' h' tk, Nx ρ' → Fp fe M s.heap h' → St W A fe lev g M ρ' h' → Q .next { s with heap := h', toks := tk }) →
    (∀ v d ρ' h' tk, Rt ρ' d → St W A fe lev g M ρ' h' → Rd h' v d → Q (.ret v) { s with heap := h', toks := tk }) → wpAny (model W.prog W.w) A (execs ss fe) Q E s
noncomputable def Tg (target : Expr) (d : PyData) (ρ ρ' : Rho) : Prop :=
  ∀ (v : Value) (s : Shared) (Q : Unit → Shared → Prop) (E : Value → Shared → Prop), St W A fe lev g M ρ s.heap → RdOff M s.heap v d →
    (∀ h' tk, Fp fe M s.heap h' → St W A fe lev g M ρ' h' → Q () { s with heap := h', toks := tk }) → wpAny (model W.prog W.w) A (assign target fe v) Q E s
end

structure Nm (fe : Env) (ρ : Rho) (x : Str) : Prop where
  kind : fe.kindOf x = some .local ∨ (fe.kindOf x = some .cell ∧ (fe.cells.lookup x).isSome = true)
  new : (ρ.all fun p => p.1 != x) = true
  h1 : (x == ("__debug__" : Str)) = false
  h2 : (x == ("__classdict__" : Str)) = false

section
variable {W : Wd} {A : Around} {fe : Env} {lev : Nat} {g : Heap} {M : List Addr} {ρ ρ' : Rho} {Nx : Rho → Prop} {Rt : Rho → PyData → Prop}

theorem Ex.sub {ss : List Stmt} (k : ∀ p ∈ ρ', p ∈ ρ) (x : Ex W A fe lev g M ρ' ss Nx Rt) : Ex W A fe lev g M ρ ss Nx Rt := fun s Q E S => x s Q E (S.sub k)
theorem Ex1.imp {ss : Stmt} {Nx' : Rho → Prop} {Rt' : Rho → PyData → Prop} (k : ∀ ρ, Nx ρ → Nx' ρ) (k' : ∀ ρ d, Rt ρ d → Rt' ρ d) (x : Ex1 W A fe lev g M ρ ss Nx Rt) : Ex1 W A fe lev g M ρ ss Nx' Rt' :=
  fun s Q E S a b => x s Q E S (fun ρ' h' tk n => a ρ' h' tk (k _ n)) fun v d ρ' h' tk r => b v d ρ' h' tk (k' _ _ r)
theorem ex_nil (n : Nx ρ) : Ex W A fe lev g M ρ [] Nx Rt := fun s _ _ S k _ => wpAny_execs_nil (k ρ s.heap s.toks n (Fp.refl _) S)
theorem ex_cons {st : Stmt} {rest : List Stmt} {N₁ : Rho → Prop} (x : Ex1 W A fe lev g M ρ st N₁ Rt) (y : ∀ ρ', N₁ ρ' → Ex W A fe lev g M ρ' rest Nx Rt) : Ex W A fe lev g M ρ (st :: rest) Nx Rt := by
  intro s Q E S k r
  refine wpAny_execs_cons (x s _ E S (fun ρ' h' tk n f S' => ?_) fun v d ρ' h' tk rt S' rd => r v d ρ' h' tk rt S' rd)
  exact y ρ' n _ _ E S' (fun ρ'' h'' tk' n' f' S'' => k ρ'' h'' tk' n' (f.trans f') S'') fun v d ρ' h' tk rt S' rd => r v d ρ' h' tk rt S' rd
theorem ex_seq {st : Stmt} {rest : List Stmt} {ρ₁ : Rho} (x : Ex1 W A fe lev g M ρ st (· = ρ₁) Rt) (y : Ex W A fe lev g M ρ₁ rest Nx Rt) : Ex W A fe lev g M ρ (st :: rest) Nx Rt :=
  ex_cons x fun _ e => e ▸ y
theorem ex_last {st : Stmt} {rest : List Stmt} (x : Ex1 W A fe lev g M ρ st (fun _ => False) Rt) : Ex W A fe lev g M ρ (st :: rest) Nx Rt :=
  ex_cons x fun _ e => e.elim

theorem ex1_if {test : Expr} {body orelse : List Stmt} {pos : Pos} {b : Bool} (t : Ts W A fe lev fe (vals ρ) test b) (x : b = true → Ex W A fe lev g M ρ body Nx Rt) (y : b = false → Ex W A fe lev g M ρ orelse Nx Rt) :
    Ex1 W A fe lev g M ρ (.If test body orelse pos) Nx Rt := by
  intro s Q E S k r
  refine wpAny_If (t s _ E S.ok S.vars fun h' tk l => ?_)
  cases b with
  | true => exact x rfl _ _ E (S.up l) (fun ρ'' h'' tk' n' f' S'' => k ρ'' h'' tk' n' ((Fp.of l).trans f') S'') fun v d ρ' h' tk rt S' rd => r v d ρ' h' tk rt S' rd
  | false => exact y rfl _ _ E (S.up l) (fun ρ'' h'' tk' n' f' S'' => k ρ'' h'' tk' n' ((Fp.of l).trans f') S'') fun v d ρ' h' tk rt S' rd => r v d ρ' h' tk rt S' rd
theorem ex1_ret {e : Expr} {pos : Pos} {d : PyData} (x : Ev W A fe lev fe (vals ρ) e d) (r : Rt ρ d) : Ex1 W A fe lev g M ρ (.Return (some e) pos) Nx Rt := by
  intro s Q E S _ k
  exact wpAny_Return_some (x s _ E S.ok S.vars fun v h' tk l rd => k v d ρ h' tk r (S.up l) rd)

noncomputable def Off (M : List Addr) (ρ : Rho) (d : PyData) : Prop := M = [] ∨ imm d = true ∨ ∃ x a k, M = [a] ∧ (x, Ent.src a k) ∈ ρ
theorem St.off {v : Value} {d : PyData} {h : Heap} (S : St W A fe lev g M ρ h) (r : Rd h v d) (o : Off M ρ d) : RdOff M h v d := by
  rcases o with rfl | o | ⟨x, a, k, rfl, hm⟩
  · exact r.off
  · exact r.offI o
  · obtain ⟨v', _, rfl, _, c, t, vs, ns, dd, _⟩ := S.ents _ hm
    obtain ⟨o, es, ep, e, q⟩ := dictOf_ex dd
    obtain ⟨as, r', w⟩ := r
    refine ⟨as, r', fun b hb => ⟨w b hb, fun hb' => ?_⟩⟩
    obtain ⟨o', xs, n, e', q'⟩ := w b hb
    rw [List.mem_singleton.mp hb', e] at e'
    cases e'
    rw [q] at q'; cases q'
theorem tg_name {x : Str} {pos : Pos} {d : PyData} (n : Nm fe ρ x) : Tg W A fe lev g M (.Name x pos) d ρ ((x, .val d) :: ρ) := by
  intro v s Q E S r k
  exact wpAny_assign_Name (S.store (e := .val d) n.kind r n.new n.h1 n.h2 k)
theorem ex1_assign {x : Str} {px pos : Pos} {e : Expr} {d : PyData} (he : Ev W A fe lev fe (vals ρ) e d) (n : Nm fe ρ x) (hM : Off M ρ d)
    (hs : swapsWith e (some (.Name x px)) pos.line fe = pure false := by rfl) : Ex1 W A fe lev g M ρ (.Assign [.Name x px] e pos) (· = (x, .val d) :: ρ) Rt := by
  intro s Q E S k _
  refine wpAny_Assign_Name (he s _ E S.ok S.vars fun v h' tk l r => ?_) hs
  exact (S.up l).store (s := { s with heap := h', toks := tk }) (e := .val d) n.kind ((S.up l).off r hM) n.new n.h1 n.h2 fun h'' tk' f S' => k _ h'' tk' rfl ((Fp.of l).trans f) S'

noncomputable def push : List (Str × PyData) → Rho → Rho
  | [], ρ => ρ
  | (x, d) :: r, ρ => push r ((x, .val d) :: ρ)
theorem le_of_ext {h h' : Heap} (x : Heap.ExtBut h.objs.size h h') : Le h h' := fun b o e => x b o (Nat.ne_of_lt (Heap.lt_size e)) e

noncomputable def Sto (W : Wd) (A : Around) (fe : Env) (x : Str) (t : Value → Sem Unit) : Prop :=
  ∀ (v : Value) (s : Shared) (Q : Unit → Shared → Prop) (E : Value → Shared → Prop), wpAny (model W.prog W.w) A (storeName fe x v) Q E s → wpAny (model W.prog W.w) A (t v) Q E s
theorem sto_assign {x : Str} {p : Pos} : Sto W A fe x (assign (.Name x p) fe) := fun _ _ _ _ h => wpAny_assign_Name h
theorem sto_bind {x : Str} : Sto W A fe x (bindName fe x) := fun _ _ _ _ h => wpAny_bindName h
inductive Stos (W : Wd) (A : Around) (fe : Env) : Rho → List (Str × PyData) → List (Value → Sem Unit) → Prop
  | nil {ρ : Rho} : Stos W A fe ρ [] []
  | cons {ρ : Rho} {x : Str} {d : PyData} {r : List (Str × PyData)} {t : Value → Sem Unit} {ts : List (Value → Sem Unit)} : Nm fe ρ x → Sto W A fe x t → Stos W A fe ((x, .val d) :: ρ) r ts → Stos W A fe ρ ((x, d) :: r) (t :: ts)
theorem store_all : ∀ {xs : List (Str × PyData)} {ts : List (Value → Sem Unit)} {vs : List Value} {ρ : Rho} {s : Shared} {Q : Unit → Shared → Prop} {E : Value → Shared → Prop},
    St W A fe lev g M ρ s.heap → Stos W A fe ρ xs ts → (∀ (i : Nat) (d : PyData), (xs.map (·.2))[i]? = some d → ∃ v, vs[i]? = some v ∧ RdOff M s.heap v d) → vs.length = xs.length →
    (∀ h' tk, Fp fe M s.heap h' → St W A fe lev g M (push xs ρ) h' → Q () { s with heap := h', toks := tk }) → wpAny (model W.prog W.w) A (assignInOrder ts vs) Q E s
  | [], _, vs, ρ, s, Q, E, S, .nil, _, _, k => assignInOrder_nil (k s.heap s.toks (Fp.refl _) S)
  | (x, d) :: r, _, [], ρ, s, Q, E, S, _, _, hl, _ => by simp at hl
  | (x, d) :: r, _, v :: vs, ρ, s, Q, E, S, .cons n t ts, hv, hl, k => by
    obtain ⟨v', e, rd⟩ := hv 0 d (by simp)
    simp at e; subst e
    refine assignInOrder_cons (t v s _ E (S.store (e := .val d) n.kind rd n.new n.h1 n.h2 fun h' tk f S' => ?_))
    refine store_all (s := { s with heap := h', toks := tk }) S' ts (fun i d' hd => ?_) (by simpa using hl) fun h'' tk' f' S'' => k h'' tk' (f.trans f') S''
    obtain ⟨u, e, rd'⟩ := hv (i + 1) d' (by simpa using hd)
    exact ⟨u, by simpa using e, rd'.fp S f⟩

theorem RdAll.offs {h : Heap} {vs : List Value} {ds : List PyData} (S : St W A fe lev g M ρ h) (r : RdAll h vs ds) (hM : ∀ d ∈ ds, Off M ρ d) : ∀ (i : Nat) (d : PyData), ds[i]? = some d → ∃ v, vs[i]? = some v ∧ RdOff M h v d := by
  intro i d e
  obtain ⟨v, e', r'⟩ := r.get e
  exact ⟨v, e', S.off r' (hM d (List.mem_of_getElem? e))⟩

theorem ex1_unpack {elts : List Expr} {k : Nat} {tpos pos : Pos} {value : Expr} {xs : List (Str × PyData)} (he : Ev W A fe lev fe (vals ρ) value (.tuple (xs.map (·.2))))
    (hM : ∀ d ∈ xs.map (·.2), Off M ρ d) (hs : Stos W A fe ρ xs ((assignEach elts fe).map (·.2))) (hn : (assignEach elts fe).length = xs.length) (hstar : (assignEach elts fe).findIdx? (·.1) = none)
    (hsw : swapsWithSole [.Tuple elts k tpos] value pos.line fe = pure false := by rfl) (hw : swappedStores [.Tuple elts k tpos] value fe = pure none := by rfl) :
    Ex1 W A fe lev g M ρ (.Assign [.Tuple elts k tpos] value pos) (· = push xs ρ) Rt := by
  intro s Q E S kk _
  refine Assign_Tuple (he s _ E S.ok S.vars fun v h' tk l r => ?_) hsw hw
  obtain ⟨a, its, rfl, ht, hr⟩ := r.tuple
  have hlen : its.size = xs.length := by have := hr.length; simpa using this
  refine wpAny_assign_Tuple (s := { s with heap := h', toks := tk }) S.hand ht (by rw [hn, hlen]) hstar fun h'' ex => ?_
  have l2 := le_of_ext ex
  have S2 := (S.up l).up l2
  refine store_all (s := { s with heap := h'', toks := tk }) S2 hs (RdAll.offs S2 (hr.up l2) hM) (by simpa using hlen) fun h3 tk3 f3 S3 => ?_
  exact kk _ h3 tk3 rfl ((Fp.of (l.trans l2)).trans f3) S3
theorem ex1_swap {elts : List Expr} {k : Nat} {tpos pos : Pos} {value : Expr} {xs : List (Str × PyData)} (he : Ev W A fe lev fe (vals ρ) value (.tuple (xs.map (·.2))))
    (hM : ∀ d ∈ xs.map (·.2), Off M ρ d) (hs : Stos W A fe ρ xs.reverse (xs.reverse.map fun p => bindName fe p.1))
    (hsw : swapsWithSole [.Tuple elts k tpos] value pos.line fe = pure false := by rfl) (hw : swappedStores [.Tuple elts k tpos] value fe = pure (some (xs.map (·.1))) := by rfl) :
    Ex1 W A fe lev g M ρ (.Assign [.Tuple elts k tpos] value pos) (· = push xs.reverse ρ) Rt := by
  intro s Q E S kk _
  rw [arm_exec_Assign]
  refine wpAny_bind (wpAny_standAt ?_)
  rw [hsw]
  refine wpAny_bind (wpAny_pure ?_)
  rw [if_neg (by decide)]
  refine wpAny_bind (he s _ E S.ok S.vars fun v h' tk l r => ?_)
  rw [hw]
  refine wpAny_bind (wpAny_pure ?_)
  obtain ⟨a, its, rfl, ht, hr⟩ := r.tuple
  have hlen : its.size = xs.length := by have := hr.length; simpa using this
  unfold assignStores
  dsimp only
  refine wpAny_bind (wpAny_rule (wpAny_bind ?_))
  rw [List.length_map, ← hlen]
  refine wpAny_unpackItems_tuple (s := { s with heap := h', toks := tk }) S.hand ht fun h'' ex => ?_
  have l2 := le_of_ext ex
  have S2 := (S.up l).up l2
  have e1 : ((xs.map (·.1)).reverse.map fun n => bindName fe n) = xs.reverse.map fun p => bindName fe p.1 := by
    rw [← List.map_reverse, List.map_map]; rfl
  rw [e1]
  refine wpAny_bind (store_all (s := { s with heap := h'', toks := tk }) S2 hs (fun i d hd => ?_) (by simpa using hlen) fun h3 tk3 f3 S3 => ?_)
  · have hlt : i < xs.length := by
      have := List.getElem?_eq_some_iff.mp hd
      simpa using this.1
    have hd' : (xs.map (·.2))[xs.length - 1 - i]? = some d := by
      have : (xs.reverse.map (·.2)) = (xs.map (·.2)).reverse := by rw [List.map_reverse]
      rw [this, List.getElem?_reverse (by simpa using hlt)] at hd
      simpa using hd
    obtain ⟨v, hv, ro⟩ := RdAll.offs S2 (hr.up l2) hM _ _ hd'
    refine ⟨v, ?_, ro⟩
    have hl2 : its.toList.length = xs.length := by simpa using hlen
    rw [List.getElem?_reverse (by rw [hl2]; exact hlt), hl2]
    exact hv
  · exact wpAny_pure (kk _ h3 tk3 rfl ((Fp.of (l.trans l2)).trans f3) S3)
end
noncomputable def ItSafe (h : Heap) (I : Addr) : Prop := ∃ o n vs, h.get? I = some o ∧ o.cls = .type n ∧ o.data = .fields vs ∧ n ∈ ["list_iterator", "tuple_iterator", "range_iterator"]
theorem ItSafe.seq {h : Heap} {I : Addr} (x : ItSafe h I) : ¬ SeqAt h I := fun ⟨o, xs, k, e, q⟩ => by
  obtain ⟨o', n, vs, e', _, d, _⟩ := x
  rw [e] at e'; cases e'
  rw [q] at d; cases d
theorem owned_go {M : Model} {A : Around} {E : Value → Shared → Prop} {s : Shared} {target : Expr} {I : Addr} {v : Value} {Q : Unit → Shared → Prop} (x : ItSafe s.heap I) (k : Q () s) :
    wpAny M A (letOwnedTupleGo target (.ref I) v) Q E s := by
  obtain ⟨o, n, vs, e, c, d, hn⟩ := x
  unfold letOwnedTupleGo
  cases target <;> first
    | exact wpAny_pure k
    | (cases v <;> first
        | exact wpAny_pure k
        | (refine wpAny_bind (wpAny_load e ?_)
           rw [c, d]
           simp only [List.mem_cons, List.not_mem_nil, or_false] at hn
           rcases hn with rfl | rfl | rfl <;> exact wpAny_pure k))

section
variable {W : Wd} {A : Around} {fe : Env} {lev : Nat} {g : Heap} {M : List Addr} {ρ ρ' : Rho} {Nx : Rho → Prop} {Rt : Rho → PyData → Prop} {h h' : Heap}

theorem St.but {x : Addr} (S : St W A fe lev g M ρ h) (hx : ¬ SeqAt h x) (hM : x ∉ M) (hL : x ≠ fe.locals) (hc : ∀ y, fe.cells.lookup y ≠ some x) (hg : g.get? x = none)
    (k : ∀ b o, b ≠ x → h.get? b = some o → h'.get? b = some o) : St W A fe lev g M ρ h' := by
  obtain ⟨m, F⟩ := S.fr
  have hn : h'.Ns fe.locals m := F.ns.at' fun o e => k _ o (Ne.symm hL) e
  refine { S with fr := ⟨m, hn, fun b o e => k b o (fun q => by rw [q, hg] at e; cases e) (F.keep b o e), F.above⟩, cells := fun y c e => ?_, mov := fun a ha => ?_, ents := fun p hp => ?_ }
  · obtain ⟨a, b, v, r⟩ := S.cells y c e
    have hne : c ≠ x := fun q => hc y (q ▸ e)
    obtain ⟨o, e1, e2⟩ := r
    exact ⟨a, b, v, o, k _ _ hne e1, e2⟩
  · obtain ⟨p, q, o, e, r⟩ := S.mov a ha
    exact ⟨p, q, o, k _ _ (fun q => hM (q ▸ ha)) e, r⟩
  · obtain ⟨u, ⟨a1, a2, a3⟩, r⟩ := S.ents p hp
    refine ⟨u, ⟨a1, a2, ?_⟩, r.but hx hM k⟩
    rcases a3 with ⟨b1, m', b2, b3⟩ | ⟨b1, c, b2, b3⟩
    · exact .inl ⟨b1, m', b2.at' fun o e => k _ o (Ne.symm hL) e, b3⟩
    · have hne : c ≠ x := fun q => hc _ (q ▸ b2)
      obtain ⟨o, e1, e2⟩ := b3
      exact .inr ⟨b1, c, b2, o, k _ _ hne e1, e2⟩

theorem Fp.weak {M' : List Addr} (x : Fp fe M h h') (k : ∀ a ∈ M, a ∈ M') : Fp fe M' h h' := fun b o e h1 h2 h3 => x b o e h1 h2 fun hm => h3 (k b hm)

theorem RdOff.fpI {I : Addr} {v : Value} {d : PyData} (S : St W A fe lev g M ρ h) (hI : ¬ SeqAt h I) (f : Fp fe (I :: M) h h') (r : RdOff M h v d) : RdOff M h' v d := by
  obtain ⟨m, F⟩ := S.fr
  have key : ∀ b o xs n, h.get? b = some o → o.data = .seq xs n → (o.cls = .type "tuple" ∨ b ∉ M) → h'.get? b = some o := fun b o xs n e q c => by
    refine f b o e (fun e' => ns_not_seq F.ns ⟨o, xs, n, e' ▸ e, q⟩) (fun y hy => ?_) (fun hm => ?_)
    · obtain ⟨_, _, v, ci⟩ := S.cells y b hy
      exact cell_not_seq ci ⟨o, xs, n, e, q⟩
    · rcases List.mem_cons.mp hm with rfl | hm
      · exact hI ⟨o, xs, n, e, q⟩
      · rcases c with c | c
        · obtain ⟨_, _, o', e', _, c'⟩ := S.mov b hm
          rw [e] at e'; cases e'
          exact c' c
        · exact c hm
  obtain ⟨as, q, w⟩ := r
  refine ⟨as, reads_but q (fun _ h => h) (fun a ha => (w a ha).1) fun b o xs n e q c => key b o xs n e q (c.imp id fun hb => (w b hb).2), fun a ha => ⟨?_, (w a ha).2⟩⟩
  obtain ⟨o, xs, n, e, q⟩ := (w a ha).1
  exact ⟨o, xs, n, key a o xs n e q (.inr (w a ha).2), q⟩

theorem for_core {target : Expr} {body : List Stmt} {I : Addr} {fp : List Addr} {n : Nat} {P : Nat → Value → Prop} {T : Nat → Heap → Prop} (Wk : Walks W.prog W.w A I fp [I] n P T)
    {ds : List PyData} (hn : n = ds.length) (It : Heap → Prop) (hIt : ∀ i h h' ρ', T i h → St W A fe lev g M ρ' h → It h → Fp fe (I :: M) h h' → It h') (hP : ∀ i v h, P i v → It h → ∃ d, ds[i]? = some d ∧ RdOff M h v d)
    (hT : ∀ i h, T i h → ItSafe h I) (hg : g.get? I = none) (hfp : ∀ b ∈ fp, b ≠ fe.locals ∧ (∀ x, fe.cells.lookup x ≠ some b) ∧ b ∉ M) (Inv : List PyData → Rho → Prop)
    (turn : ∀ pre d post ρ, ds = pre ++ d :: post → Inv pre ρ → ∃ ρ₁, Tg W A fe lev g M target d ρ ρ₁ ∧ Ex W A fe lev g M ρ₁ body (fun ρ₂ => ∃ ρ₃, (∀ p ∈ ρ₃, p ∈ ρ₂) ∧ Inv (pre ++ [d]) ρ₃) Rt)
    {s : Shared} {Q : Flow → Shared → Prop} {E : Value → Shared → Prop} (S : St W A fe lev g M ρ s.heap) (t0 : T 0 s.heap) (i0 : It s.heap) (v0 : Inv [] ρ)
    (kN : ∀ ρ' h' tk, Inv ds ρ' → Fp fe (I :: M) s.heap h' → St W A fe lev g M ρ' h' → Q .next { s with heap := h', toks := tk })
    (kR : ∀ v d ρ' h' tk, Rt ρ' d → St W A fe lev g M ρ' h' → Rd h' v d → Q (.ret v) { s with heap := h', toks := tk }) :
    codeAny (model W.prog W.w) A (.forLoop target (.ref I) body [] fe) (fun r s' => match r with | .ok f => Q f s' | .error e => cameBackBy (model W.prog W.w) A fe E e s') s := by
  obtain ⟨fI1, fI2, fI3⟩ := hfp I (Wk.sub I (List.mem_singleton.mpr rfl))
  refine codeAny_forLoop_any (fun k s' => ∃ h' tk i ρ', s' = { s with heap := h', toks := tk } ∧ T i h' ∧ It h' ∧ St W A fe lev g M ρ' h' ∧ Inv (ds.take i) ρ' ∧ i ≤ n ∧ k = n + 1 - i ∧ Fp fe (I :: M) s.heap h') ?_ (n + 1)
    ⟨s.heap, s.toks, 0, ρ, rfl, t0, i0, S, by simpa using v0, Nat.zero_le _, rfl, Fp.refl _⟩
  rintro k s' ⟨H, tk, i, ρ', rfl, t, it, S', inv, hi, rfl, hf⟩
  have stepI : ∀ h₁ : Heap, (∀ b o, b ∉ [I] → H.get? b = some o → h₁.get? b = some o) → Fp fe (I :: M) H h₁ ∧ St W A fe lev g M ρ' h₁ ∧ It h₁ := fun h₁ k₁ => by
    have f1 : Fp fe (I :: M) H h₁ := fun b o e _ _ hb => k₁ b o (fun hm => hb (by rw [List.mem_singleton.mp hm]; exact .head _)) e
    exact ⟨f1, S'.but (hT _ _ t).seq fI3 fI1 fI2 hg fun b o hb e => k₁ b o (by simpa using hb) e, hIt _ _ _ _ t S' it f1⟩
  by_cases hlt : i < n
  · refine Wk.item i { s with heap := H, toks := tk } _ _ hlt t fun v h₁ tk₁ hPv t₁ k₁ => ?_
    obtain ⟨f1, S1, it1⟩ := stepI h₁ k₁
    obtain ⟨d, hd, rd⟩ := hP i v h₁ hPv it1
    have hsplit : ds = ds.take i ++ d :: ds.drop (i + 1) := by
      have hlt' : i < ds.length := hn ▸ hlt
      have e : ds[i] = d := by
        have := List.getElem?_eq_getElem hlt'
        rw [hd] at this; exact (Option.some.inj this).symm
      rw [← e, List.getElem_cons_drop]
      exact (List.take_append_drop i ds).symm
    obtain ⟨ρ₁, tg, body'⟩ := turn _ d _ ρ' hsplit inv
    refine owned_go (hT _ _ t₁) ?_
    refine tg v { s with heap := h₁, toks := tk₁ } _ _ S1 rd fun h₂ tk₂ f2 S2 => ?_
    have t2 : T (i + 1) h₂ := Wk.frame _ _ _ t₁ fun b hb o e => f2 b o e (hfp b hb).1 (hfp b hb).2.1 (hfp b hb).2.2
    have f2' : Fp fe (I :: M) h₁ h₂ := f2.weak fun a ha => .tail _ ha
    have it2 := hIt _ _ _ _ t₁ S1 it1 f2'
    refine body' { s with heap := h₂, toks := tk₂ } _ _ S2 (fun ρ₂ h₃ tk₃ hN f3 S3 => ?_) fun v d ρ' h' tk rt S' rd => kR v d ρ' h' tk rt S' rd
    obtain ⟨ρ₃, sub, inv'⟩ := hN
    have f3' : Fp fe (I :: M) h₂ h₃ := f3.weak fun a ha => .tail _ ha
    have ht : ds.take (i + 1) = ds.take i ++ [d] := by rw [List.take_add_one, hd]; rfl
    exact ⟨n + 1 - (i + 1), by omega, h₃, tk₃, i + 1, ρ₃, rfl, Wk.frame _ _ _ t2 fun b hb o e => f3 b o e (hfp b hb).1 (hfp b hb).2.1 (hfp b hb).2.2, hIt _ _ _ _ t2 S2 it2 f3', S3.sub sub, by rw [ht]; exact inv', hlt, rfl, ((hf.trans f1).trans f2').trans f3'⟩
  · have hin : i = n := by omega
    subst hin
    refine Wk.done { s with heap := H, toks := tk } _ _ t fun h₁ tk₁ k₁ => ?_
    obtain ⟨f1, S1, it1⟩ := stepI h₁ k₁
    refine wpAny_execs_nil ?_
    rw [hn, List.take_length] at inv
    exact kN ρ' h₁ tk₁ inv (hf.trans f1) S1

structure Nx1 (fe : Env) (M : List Addr) (g h : Heap) : Prop where
  loc : h.objs.size ≠ fe.locals
  cell : ∀ x, fe.cells.lookup x ≠ some h.objs.size
  mvd : h.objs.size ∉ M
  new : g.get? h.objs.size = none
theorem St.next (S : St W A fe lev g M ρ h) : Nx1 fe M g h := by
  obtain ⟨m, F⟩ := S.fr
  refine ⟨Nat.ne_of_gt F.ns.lt, fun x e => ?_, fun hm => ?_, ?_⟩
  · obtain ⟨_, _, v, ci⟩ := S.cells x _ e
    exact Nat.lt_irrefl _ ci.lt
  · obtain ⟨_, _, o, e, _⟩ := S.mov _ hm
    exact Nat.lt_irrefl _ (Heap.lt_size e)
  · cases q : g.get? h.objs.size with
    | none => rfl
    | some o => exact absurd (Heap.lt_size (S.le _ _ q)) (Nat.lt_irrefl _)
theorem St.seqOff (S : St W A fe lev g M ρ h) {a : Addr} (q : SeqAt h a) : a ≠ fe.locals ∧ ∀ x, fe.cells.lookup x ≠ some a := by
  obtain ⟨m, F⟩ := S.fr
  refine ⟨fun e => ns_not_seq F.ns (e ▸ q), fun x e => ?_⟩
  obtain ⟨_, _, v, ci⟩ := S.cells x _ e
  exact cell_not_seq ci q
noncomputable def Items (M : List Addr) (h : Heap) (vs : Array Value) (ds : List PyData) : Prop := ∀ (i : Nat) (v : Value), vs[i]? = some v → ∃ d, ds[i]? = some d ∧ RdOff M h v d

theorem for_list {target iter : Expr} {body : List Stmt} {pos : Pos} {ds : List PyData} (Inv : List PyData → Rho → Prop)
    (hi : ∀ (s : Shared) (Q : Value → Shared → Prop) (E : Value → Shared → Prop), St W A fe lev g M ρ s.heap →
      (∀ (a : Addr) (h' : Heap) (tk : Nat) (vs : Array Value), Le s.heap h' → a ∉ M → h'.IsList a vs → Items M h' vs ds → vs.size = ds.length → Q (.ref a) { s with heap := h', toks := tk }) → wpAny (model W.prog W.w) A (eval iter fe) Q E s)
    (v0 : Inv [] ρ) (turn : ∀ pre d post ρ, ds = pre ++ d :: post → Inv pre ρ → ∃ ρ₁, Tg W A fe lev g M target d ρ ρ₁ ∧ Ex W A fe lev g M ρ₁ body (fun ρ₂ => ∃ ρ₃, (∀ p ∈ ρ₃, p ∈ ρ₂) ∧ Inv (pre ++ [d]) ρ₃) Rt)
    (hs : ∀ x, foldedSetIterable iter fe x = pure x := by intro _; rfl) : Ex1 W A fe lev g M ρ (.For target iter body [] pos) (Inv ds) Rt := by
  intro s Q E S kN kR
  refine wpAny_For (hi s _ E S fun a h₁ tk vs l ha hl hv hsz => ?_) hs
  refine wpAny_pyIter_list (s := { s with heap := h₁, toks := tk }) hl ?_
  have S1 := S.up l
  have nx := S1.next
  have hal : a < h₁.objs.size := by obtain ⟨o, e, _⟩ := hl; exact Heap.lt_size e
  have lp := Le.push h₁ { cls := .type "list_iterator", data := .fields #[.ref a, .int 0 0] }
  have aseq : SeqAt h₁ a := by obtain ⟨o, e, _, k, q⟩ := hl; exact ⟨o, _, k, e, q⟩
  have safe : ∀ i h, (h.IsListIter h₁.objs.size a i ∧ h.IsList a vs) → ItSafe h h₁.objs.size := fun i h t => by
    obtain ⟨o, e, c, d⟩ := t.1
    exact ⟨o, _, _, e, c, d, by decide⟩
  refine for_core (s := { s with heap := h₁.push { cls := .type "list_iterator", data := .fields #[.ref a, .int 0 0] }, toks := tk }) (Walks.list S.hand h₁.objs.size a (Nat.ne_of_lt hal) vs) hsz (fun h => Items M h vs ds)
    (fun i h h' ρ' t S' it f j v e => let ⟨d, e', r⟩ := it j v e; ⟨d, e', r.fpI S' (safe _ _ t).seq f⟩) (fun i v h e it => it i v e) safe nx.new (fun b hb => ?_) Inv turn (S1.up lp)
    ⟨⟨_, Heap.get?_push_size _ rfl, rfl, rfl⟩, hl.push _⟩ (fun j v e => let ⟨d, e', as, r, w⟩ := hv j v e; ⟨d, e', as, Reads.keeps lp r, fun a ha => ⟨(w a ha).1.up lp, (w a ha).2⟩⟩) v0 (fun ρ' h' tk' iv f S' => ?_) kR
  · rcases List.mem_cons.mp hb with rfl | hb
    · exact ⟨nx.loc, nx.cell, nx.mvd⟩
    · obtain rfl := List.mem_singleton.mp hb
      exact ⟨(S1.seqOff aseq).1, (S1.seqOff aseq).2, ha⟩
  · refine kN ρ' h' tk' iv (fun b o e h1 h2 h3 => f b o (lp _ _ (l _ _ e)) h1 h2 fun hm => ?_) S'
    rcases List.mem_cons.mp hm with rfl | hm
    · exact Nat.lt_irrefl _ (Heap.lt_size (l _ _ e))
    · exact h3 hm

theorem for_tuple {target iter : Expr} {body : List Stmt} {pos : Pos} {ds : List PyData} (Inv : List PyData → Rho → Prop) (hi : Ev W A fe lev fe (vals ρ) iter (.tuple ds)) (hM : ∀ d ∈ ds, Off M ρ d)
    (v0 : Inv [] ρ) (turn : ∀ pre d post ρ, ds = pre ++ d :: post → Inv pre ρ → ∃ ρ₁, Tg W A fe lev g M target d ρ ρ₁ ∧ Ex W A fe lev g M ρ₁ body (fun ρ₂ => ∃ ρ₃, (∀ p ∈ ρ₃, p ∈ ρ₂) ∧ Inv (pre ++ [d]) ρ₃) Rt)
    (hs : ∀ x, foldedSetIterable iter fe x = pure x := by intro _; rfl) : Ex1 W A fe lev g M ρ (.For target iter body [] pos) (Inv ds) Rt := by
  intro s Q E S kN kR
  refine wpAny_For (hi s _ E S.ok S.vars fun v h₁ tk l r => ?_) hs
  obtain ⟨a, vs, rfl, hl, hr⟩ := r.tuple
  have hsz : vs.size = ds.length := by have := hr.length; simpa using this
  refine wpAny_pyIter_tuple (s := { s with heap := h₁, toks := tk }) hl ?_
  have S1 := S.up l
  have nx := S1.next
  have hal : a < h₁.objs.size := by obtain ⟨o, e, _⟩ := hl; exact Heap.lt_size e
  have lp := Le.push h₁ { cls := .type "tuple_iterator", data := .fields #[.ref a, .int 0 0] }
  have aseq : SeqAt h₁ a := by obtain ⟨o, e, _, k, q⟩ := hl; exact ⟨o, _, k, e, q⟩
  have ha : a ∉ M := fun hm => by
    obtain ⟨_, _, o', e', _, c'⟩ := S1.mov a hm
    obtain ⟨o, e, c, _⟩ := hl
    rw [e] at e'; cases e'
    exact c' c
  have hv : Items M h₁ vs ds := fun i v e => by
    obtain ⟨d, e1, r1⟩ := hr.get' (j := i) (v := v) (by simpa using e)
    exact ⟨d, e1, S1.off r1 (hM d (List.mem_of_getElem? e1))⟩
  have safe : ∀ i h, (h.IsTupleIter h₁.objs.size a i ∧ h.IsTuple a vs) → ItSafe h h₁.objs.size := fun i h t => by
    obtain ⟨o, e, c, d⟩ := t.1
    exact ⟨o, _, _, e, c, d, by decide⟩
  refine for_core (s := { s with heap := h₁.push { cls := .type "tuple_iterator", data := .fields #[.ref a, .int 0 0] }, toks := tk }) (Walks.tuple S.hand h₁.objs.size a (Nat.ne_of_lt hal) vs) hsz (fun h => Items M h vs ds)
    (fun i h h' ρ' t S' it f j v e => let ⟨d, e', r⟩ := it j v e; ⟨d, e', r.fpI S' (safe _ _ t).seq f⟩) (fun i v h e it => it i v e) safe nx.new (fun b hb => ?_) Inv turn (S1.up lp)
    ⟨⟨_, Heap.get?_push_size _ rfl, rfl, rfl⟩, Heap.IsTuple.push hl _⟩ (fun j v e => let ⟨d, e', as, r, w⟩ := hv j v e; ⟨d, e', as, Reads.keeps lp r, fun a ha => ⟨(w a ha).1.up lp, (w a ha).2⟩⟩) v0 (fun ρ' h' tk' iv f S' => ?_) kR
  · rcases List.mem_cons.mp hb with rfl | hb
    · exact ⟨nx.loc, nx.cell, nx.mvd⟩
    · obtain rfl := List.mem_singleton.mp hb
      exact ⟨(S1.seqOff aseq).1, (S1.seqOff aseq).2, ha⟩
  · refine kN ρ' h' tk' iv (fun b o e h1 h2 h3 => f b o (lp _ _ (l _ _ e)) h1 h2 fun hm => ?_) S'
    rcases List.mem_cons.mp hm with rfl | hm
    · exact Nat.lt_irrefl _ (Heap.lt_size (l _ _ e))
    · exact h3 hm

noncomputable def rangeD (a b : Int) : List PyData := (List.range (b - a).toNat).map fun i => .int (a + (i : Nat))
noncomputable def RgEv (W : Wd) (A : Around) (fe : Env) (lev : Nat) (env : Env) (ρ : List (Str × PyData)) (e : Expr) (a b : Int) : Prop :=
  ∀ (s : Shared) (Q : Value → Shared → Prop) (E : Value → Shared → Prop), OK W A fe lev s.heap → Vars env ρ s.heap →
    (∀ (r : Addr) (h' : Heap) (tk : Nat) (t u v : Tok), Le s.heap h' → IsRange h' r a b 1 t u v → Q (.ref r) { s with heap := h', toks := tk }) → wpAny (model W.prog W.w) A (eval e env) Q E s
theorem rg_call {env : Env} {ρ : List (Str × PyData)} {np pos : Pos} {e : Expr} {es : List Expr} {ds : List PyData} {a b : Int} (hk : env.kindOf (Str.ofString "range") = some .globalImplicit)
    (ha : Evs W A fe lev env ρ (e :: es) ds) (hds : ds = [.int b] ∧ a = 0 ∨ ds = [.int a, .int b])
    (he : starEach (e :: es) env = (false, eval e env) :: starEach es env := by rfl) (hpl : ∀ pos, (backTo pos (starEach es env)).any (·.1) = false := by intro _; rfl) :
    RgEv W A fe lev env ρ (.Call (.Name (Str.ofString "range") np) (e :: es) [] pos) a b := by
  intro s Q E ok hv k
  have T := ok.top
  have hb : Str.ofString "range" ∈ bnames := by decide +kernel
  have hboot : bootBuiltins (Str.ofString "range") = some (.type "range") := by boot_by_name
  refine PyProof.Rows.Call_ (Name_function_global hv.kind hk (loadGlobal_builtin (by rw [hv.globs]; exact T.g) (ok.knows.free _ hb) (by rw [hv.bltn]; exact T.b) ((T.builtins _ (by decide +kernel)).trans hboot) ?_) (by decide +kernel))
  refine PyProof.Rows.callWith_type1 (ha pos s _ E ok hv fun vs h' tk l rr => ?_) he (hpl _)
  rcases hds with ⟨rfl, rfl⟩ | rfl
  · obtain ⟨v, rfl, r1⟩ := rdAll1 rr
    obtain ⟨t, rfl⟩ := r1.int
    exact call_range_1 (k _ _ _ _ _ _ (l.trans (Le.push _ _)) (IsRange.new ..))
  · obtain ⟨v, v', rfl, r1, r2⟩ := rdAll2 rr
    obtain ⟨t, rfl⟩ := r1.int
    obtain ⟨u, rfl⟩ := r2.int
    exact call_range_2 (k _ _ _ _ _ _ (l.trans (Le.push _ _)) (IsRange.new ..))
theorem rangeSize_nat (a b : Int) : Builtin.Range.rangeSize a b 1 = (((b - a).toNat : Nat) : Int) := by
  rw [rangeSize_one]
  split <;> omega
theorem rangeD_get {a b : Int} {i : Nat} (h : i < (b - a).toNat) : (rangeD a b)[i]? = some (.int (a + (i : Nat))) := by
  simp [rangeD, h]
theorem rangeD_len (a b : Int) : (rangeD a b).length = (b - a).toNat := by simp [rangeD]

theorem for_range {target iter : Expr} {body : List Stmt} {pos : Pos} {a b : Int} (Inv : List PyData → Rho → Prop) (hi : RgEv W A fe lev fe (vals ρ) iter a b)
    (ha : -(2 ^ 62) ≤ a) (ha' : a < 2 ^ 62) (hb : -(2 ^ 62) ≤ b) (hb' : b < 2 ^ 62)
    (v0 : Inv [] ρ) (turn : ∀ pre d post ρ, rangeD a b = pre ++ d :: post → Inv pre ρ → ∃ ρ₁, Tg W A fe lev g M target d ρ ρ₁ ∧ Ex W A fe lev g M ρ₁ body (fun ρ₂ => ∃ ρ₃, (∀ p ∈ ρ₃, p ∈ ρ₂) ∧ Inv (pre ++ [d]) ρ₃) Rt)
    (hs : ∀ x, foldedSetIterable iter fe x = pure x := by intro _; rfl) : Ex1 W A fe lev g M ρ (.For target iter body [] pos) (Inv (rangeD a b)) Rt := by
  intro s Q E S kN kR
  refine wpAny_For (hi s _ E S.ok S.vars fun r h₁ tk t u v l hr => ?_) hs
  refine wpAny_pyIter_range (s := { s with heap := h₁, toks := tk }) hr (small_one ha ha' hb hb') ?_
  have S1 := S.up l
  have nx := S1.next
  rw [rangeSize_nat]
  have lp := Le.push h₁ { cls := .type "range_iterator", data := .fields #[rawInt a, rawInt (((b - a).toNat : Nat) : Int), rawInt 1] }
  have safe : ∀ i h, IsRangeIter h h₁.objs.size (a + (i : Nat) * 1) ((((b - a).toNat : Nat) : Int) - (i : Nat)) 1 → ItSafe h h₁.objs.size := fun i h t => ⟨_, _, _, t, rfl, rfl, by decide⟩
  have Wk : Walks W.prog W.w A h₁.objs.size [h₁.objs.size] [h₁.objs.size] (b - a).toNat (fun i v => i < (b - a).toNat ∧ ∃ t, v = .int (a + i * 1) t)
    (fun i h => IsRangeIter h h₁.objs.size (a + (i : Nat) * 1) ((((b - a).toNat : Nat) : Int) - (i : Nat)) 1) := (Walks.range S.hand h₁.objs.size a 1 (b - a).toNat).bound
  refine for_core (s := { s with heap := h₁.push { cls := .type "range_iterator", data := .fields #[rawInt a, rawInt (((b - a).toNat : Nat) : Int), rawInt 1] }, toks := tk }) Wk (rangeD_len a b).symm (fun _ => True)
    (fun _ _ _ _ _ _ _ _ => trivial) (fun i v h e _ => ?_) safe nx.new (fun c hc => ?_) Inv turn (S1.up lp) (by simpa using Heap.get?_push_size _ rfl) trivial v0 (fun ρ' h' tk' iv f S' => ?_) kR
  · obtain ⟨hi, t, rfl⟩ := e
    refine ⟨_, rangeD_get hi, [], ?_, fun _ h => nomatch h⟩
    rw [Int.mul_one]
    exact .int _ _
  · obtain rfl := List.mem_singleton.mp hc
    exact ⟨nx.loc, nx.cell, nx.mvd⟩
  · refine kN ρ' h' tk' iv (fun c o e h1 h2 h3 => f c o (lp _ _ (l _ _ e)) h1 h2 fun hm => ?_) S'
    rcases List.mem_cons.mp hm with rfl | hm
    · exact Nat.lt_irrefl _ (Heap.lt_size (l _ _ e))
    · exact h3 hm

theorem ex1_while {test : Expr} {body : List Stmt} {pos : Pos} (Inv : Nat → Rho → Prop) (n : Nat) (v0 : Inv n ρ)
    (turn : ∀ n ρ, Inv n ρ → ∃ b, Ts W A fe lev fe (vals ρ) test b ∧ (b = true → Ex W A fe lev g M ρ body (fun ρ₂ => ∃ m ρ₃, m < n ∧ (∀ p ∈ ρ₃, p ∈ ρ₂) ∧ Inv m ρ₃) Rt) ∧ (b = false → Nx ρ)) :
    Ex1 W A fe lev g M ρ (.While test body [] pos) Nx Rt := by
  intro s Q E S kN kR
  have hA : A.mark none = A := by
    have := S.hand
    cases A; simp [Around.mark]
  refine wpAny_While (codeAny_whileLoop (fun n s' => ∃ h' tk ρ', s' = { s with heap := h', toks := tk } ∧ St W A fe lev g M ρ' h' ∧ Inv n ρ' ∧ Fp fe M s.heap h') ?_ n ⟨s.heap, s.toks, ρ, rfl, S, v0, Fp.refl _⟩)
  rintro n s' ⟨H, tk, ρ', rfl, S', inv, f⟩
  obtain ⟨b, t, ht, hf⟩ := turn n ρ' inv
  refine t { s with heap := H, toks := tk } _ _ S'.ok S'.vars fun h₁ tk₁ l => ?_
  cases b with
  | true =>
    refine ht rfl { s with heap := h₁, toks := tk₁ } _ _ (S'.up l) (fun ρ₂ h₂ tk₂ hN f2 S2 => ?_) fun v d ρ' h' tk rt S' rd => kR v d ρ' h' tk rt S' rd
    obtain ⟨m, ρ₃, hm, sub, inv'⟩ := hN
    exact ⟨m, hm, h₂, tk₂, ρ₃, rfl, S2.sub sub, inv', (f.trans (Fp.of l)).trans f2⟩
  | false => exact wpAny_execs_nil (kN ρ' h₁ tk₁ (hf rfl) (f.trans (Fp.of l)) (S'.up l))
end
theorem bindL_skip {ko : Str → Option NameKind} {y : Str} : ∀ (binds : List (Str × Value)) (m : Str → Option Value), (∀ p ∈ binds, p.1 ≠ y) → bindL ko binds m y = m y
  | [], _, _ => rfl
  | (n, v) :: r, m, h => by
    rw [bindL, bindL_skip r _ fun p hp => h p (.tail _ hp)]
    have hn : y ≠ n := fun e => h (n, v) (.head _) e.symm
    split
    · simp [hn]
    · rfl
theorem bindC_skip {ko : Str → Option NameKind} {y : Str} : ∀ (binds : List (Str × Value)) (m : Str → Option Value), (∀ p ∈ binds, p.1 ≠ y) → bindC ko binds m y = m y
  | [], _, _ => rfl
  | (n, v) :: r, m, h => by
    rw [bindC, bindC_skip r _ fun p hp => h p (.tail _ hp)]
    have hn : y ≠ n := fun e => h (n, v) (.head _) e.symm
    split
    · rfl
    · simp [hn]
theorem bindL_get {ko : Str → Option NameKind} {y : Str} {v : Value} (hy : ko y = some .local) : ∀ (binds : List (Str × Value)) (m : Str → Option Value), (binds.map (·.1)).Nodup → (y, v) ∈ binds → bindL ko binds m y = some v
  | [], _, _, h => nomatch h
  | (n, w) :: r, m, hn, h => by
    rw [List.map_cons, List.nodup_cons] at hn
    rw [bindL]
    rcases List.mem_cons.mp h with e | h
    · cases e
      rw [bindL_skip r _ fun p hp e => hn.1 (List.mem_map.mpr ⟨p, hp, e⟩), if_pos hy]
      simp
    · exact bindL_get hy r _ hn.2 h
theorem bindC_get {ko : Str → Option NameKind} {y : Str} {v : Value} (hy : ko y = some .cell) : ∀ (binds : List (Str × Value)) (m : Str → Option Value), (binds.map (·.1)).Nodup → (y, v) ∈ binds → bindC ko binds m y = some v
  | [], _, _, h => nomatch h
  | (n, w) :: r, m, hn, h => by
    rw [List.map_cons, List.nodup_cons] at hn
    rw [bindC]
    rcases List.mem_cons.mp h with e | h
    · cases e
      rw [bindC_skip r _ fun p hp e => hn.1 (List.mem_map.mpr ⟨p, hp, e⟩), if_neg (by rw [hy]; decide)]
      simp
    · exact bindC_get hy r _ hn.2 h

structure Def (r : DefRec) (xs : List Str) : Prop where
  mem : r ∈ recs0
  bind : ∀ (vs : List Value) (pm cd doc : Value), vs.length = xs.length → bindArgs (docDef r.name r.params r.body r.scope pm cd doc) ⟨vs, []⟩ = pure (xs.zip vs)
  kind : ∀ k, ∀ y ∈ xs, r.scope.names.lookup y = some .local ∨ (r.scope.names.lookup y = some .cell ∧ ((cellsFrom k r.scope.names []).lookup y).isSome = true)
  nodup : xs.Nodup
  good : ∀ y ∈ xs, (y == ("__debug__" : Str)) = false ∧ (y == ("__classdict__" : Str)) = false
  co : r.scope.isCoroutine = false
  gen : r.scope.isGenerator = false
  fn : r.scope.kind = .function

section
variable {W : Wd} {A : Around} {fe : Env} {lev : Nat} {g : Heap} {M : List Addr} {ρ ρ' : Rho} {Nx : Rho → Prop} {Rt : Rho → PyData → Prop} {h h' : Heap}

theorem zip_get {α β : Type} : ∀ {xs : List α} {ys : List β} {i : Nat} {x : α} {y : β}, xs[i]? = some x → ys[i]? = some y → (x, y) ∈ xs.zip ys
  | [], _, _, _, _, h, _ => by simp at h
  | _ :: _, [], _, _, _, _, h => by simp at h
  | _ :: _, _ :: _, 0, _, _, h, k => by simp at h k; subst h; subst k; simp
  | _ :: _, _ :: _, i + 1, _, _, h, k => by
    simp only [List.zip_cons_cons]
    exact .tail _ (zip_get (i := i) (by simpa using h) (by simpa using k))
theorem zip_inv {α β : Type} : ∀ {xs : List α} {ys : List β} {p : α × β}, p ∈ xs.zip ys → ∃ i : Nat, xs[i]? = some p.1 ∧ ys[i]? = some p.2
  | [], _, _, h => by simp at h
  | _ :: _, [], _, h => by simp at h
  | x :: _, y :: _, p, h => by
    rw [List.zip_cons_cons] at h
    rcases List.mem_cons.mp h with rfl | h
    · exact ⟨0, rfl, rfl⟩
    · obtain ⟨i, a, b⟩ := zip_inv h
      exact ⟨i + 1, by simpa using a, by simpa using b⟩

theorem enter {s : Shared} {r : DefRec} {xs : List Str} (D : Def r xs) (kn : Knows W) (hand : A.handled = none) (kind : fe.scope.kind = .function) (depth : A.depth + lev < recursionLimit) (units : A.units + 10 * lev + 200 < cLine)
    {A₀ : Around} {base h₀ : Heap} {outer : List Env} {L₀ : Addr} {m : Str → Option Value} (B : Below A₀ base outer h₀) (F : Fr h₀ L₀ s.heap m) (hA : A.frames = some (fe :: outer)) (hfl : fe.frame = some L₀) (T : Top W.p W.loose W.mean W.mg W.mb h₀)
    {vs : List Value} (hlen : vs.length = xs.length) {f : Value} (hf : W.mg r.name = some f) (hl : 0 < lev)
    {hid : List Addr} (hfr : ∀ a ∈ hid, (∃ o, s.heap.get? a = some o) ∧ h₀.get? a = none ∧ a ≠ L₀)
    {R : Result → Shared → Prop}
    (k : ∀ L a cd h₁ tk, Le s.heap h₁ → (∀ ρ : Rho, (∀ p ∈ ρ, ∃ v, (p.1, v) ∈ xs.zip vs ∧ EntIs W hid h₁ v p.2) → (∀ a ∈ hid, ∃ o, h₁.get? a = some o ∧ (∀ v, o.data ≠ .cell v) ∧ o.cls ≠ .type "tuple") →
        St W (A.deeper (envOfC r.name r.scope L a cd)) (envOfC r.name r.scope L a cd) (lev - 1) (hideAll s.heap hid) hid ρ h₁) →
      wpAny (model W.prog W.w) (A.deeper (envOfC r.name r.scope L a cd)) (execs r.body (envOfC r.name r.scope L a cd)) (fun f s' => R (.ok (.ret (match f with | .ret v => v | _ => .none))) s')
        (fun e s' => wpAny (model W.prog W.w) (A.deeper (envOfC r.name r.scope L a cd)) (leaving (envOfC r.name r.scope L a cd) e) (fun _ s'' => R (.error e) s'') (fun e' s'' => R (.error e') s'') s')
        { s with heap := h₁, toks := tk }) :
    codeAny (model W.prog W.w) A (.call f ⟨vs, []⟩) R s := by
  have Ts' := T.keeps F.keep
  obtain ⟨a, o, pm, cd, doc, h1, h2, h3, h4⟩ := top_fn Ts' kn D.mem
  rw [hf] at h1; cases h1
  have hz : (xs.zip vs).map (·.1) = xs := List.map_fst_zip (by omega)
  have hN : News h₀ L₀ s.heap (hid.map fun a => (a, ((s.heap.get? a).getD default))) := fun p hp => by
    obtain ⟨b, hb, rfl⟩ := List.mem_map.mp hp
    obtain ⟨⟨o, e⟩, q1, q2⟩ := hfr b hb
    exact ⟨by dsimp only; rw [e]; rfl, q2, q1⟩
  have hids : (hid.map fun a => (a, ((s.heap.get? a).getD default))).map (·.1) = hid := by rw [List.map_map]; exact List.map_id _
  obtain ⟨FG, BG, st, lv⟩ := groundX (R := R) B F hN hA hfl kind
  rw [hids] at FG BG st
  refine call_cells (Nat.lt_of_le_of_lt (Nat.le_add_right _ _) depth) h2 h3 Ts'.nolimit h4 (D.bind vs pm cd doc hlen) (fun x hx => ?_) (fun h₁ tk F₁ X => ?_) D.co D.gen D.fn
  · obtain ⟨i, e1, _⟩ := zip_inv hx
    exact D.kind _ _ (List.mem_of_getElem? e1)
  · refine k s.heap.objs.size a cd h₁ tk F₁.keep fun ρ hρ hmv => ?_
    refine ⟨kn, hand, D.fn, ?_, ?_, rfl, rfl, rfl, ⟨A, base, fe :: outer, BG, Around.frames_deeper hA⟩, T.keeps st, ⟨_, F₁.ns, fun b o e => F₁.keep b o (of_hideAll _ e), by rw [hideAll_size]; exact Nat.le_refl _⟩, fun y c e => ?_, fun y z c e e' => ?_, fun b hb => ?_, fun p hp => ?_⟩
    · show A.depth + 1 + (lev - 1) < recursionLimit
      omega
    · show A.units + 3 + 10 * (lev - 1) + 200 < cLine
      omega
    · have hc : (cellsFrom (s.heap.objs.size + 1) r.scope.names []).lookup y = some c := e
      have hab : s.heap.objs.size < c := X.above y c (mem_of_lookup hc)
      refine ⟨?_, Nat.ne_of_gt hab, _, X.cell y c hc⟩
      cases q : (hideAll s.heap hid).get? c with
      | none => rfl
      | some o' => exact absurd (Heap.lt_size (of_hideAll _ q)) (Nat.not_lt.mpr (Nat.le_of_lt hab))
    · exact name_of_addr X.apart (mem_of_lookup e) (mem_of_lookup e')
    · obtain ⟨⟨o', e⟩, _⟩ := hfr b hb
      exact ⟨hideAll_none _ hb, Nat.ne_of_lt (Heap.lt_size e), hmv b hb⟩
    · obtain ⟨v, hv, en⟩ := hρ p hp
      refine ⟨v, ?_, en⟩
      obtain ⟨i, e1, e2⟩ := zip_inv hv
      have hy : p.1 ∈ xs := List.mem_of_getElem? e1
      obtain ⟨g1, g2⟩ := D.good _ hy
      refine ⟨g1, g2, ?_⟩
      rcases D.kind (s.heap.objs.size + 1) _ hy with hk | ⟨hk, hc⟩
      · exact .inl ⟨hk, _, F₁.ns, bindL_get hk _ _ (by rw [hz]; exact D.nodup) hv⟩
      · obtain ⟨c, hc⟩ := Option.isSome_iff_exists.mp hc
        refine .inr ⟨.inl hk, c, hc, ?_⟩
        have := X.cell _ c hc
        rw [bindC_get hk _ _ (by rw [hz]; exact D.nodup) hv] at this
        exact this

theorem fn_intro {n : Nat} {ds : List PyData} {d : PyData} (r : DefRec) (xs : List Str) (D : Def r xs) (hlen : ds.length = xs.length)
    (body : ∀ A L a cd g lev, n ≤ lev → Ex W A (envOfC r.name r.scope L a cd) lev g [] (xs.zip (ds.map .val)) r.body (fun _ => d = .none) (fun _ d' => d' = d)) : Fn W n r.name ds d := by
  intro A fe lev f hn hf vs s Q E ok rd k
  obtain ⟨A₀, base, h₀, outer, L₀, m, B, F, hA, hfl, T⟩ := ok.ctx
  refine wpAny_call (enter D ok.knows ok.hand ok.kind ok.depth ok.units B F hA hfl T (by rw [rd.length, hlen]) hf (Nat.lt_of_le_of_lt (Nat.zero_le _) hn) (hid := []) (fun _ h => nomatch h) fun L a cd h₁ tk l mk => ?_)
  have S := mk (xs.zip (ds.map .val)) (fun p hp => ?_) (fun _ h => nomatch h)
  · refine body _ L a cd _ (lev - 1) (by omega) { s with heap := h₁, toks := tk } _ _ S (fun ρ' h' tk' e f' S' => ?_) fun v d' ρ' h' tk' e S' rd' => ?_
    · exact k .none h' tk' S'.le (by rw [e]; exact Rd.ofNone)
    · subst e
      exact k v h' tk' S'.le rd'
  · obtain ⟨i, e1, e2⟩ := zip_inv hp
    rw [List.getElem?_map] at e2
    obtain ⟨d', e3, e4⟩ := Option.map_eq_some_iff.mp e2
    obtain ⟨v, e5, r5⟩ := rd.get e3
    refine ⟨v, zip_get e1 e5, ?_⟩
    rw [← e4]
    exact (r5.up l).off

theorem plain_setAt {its : Array Value} {n i : Nat} {v : Value} : ∃ n', Obj.mapSeq (·.setIfInBounds i v) { cls := .type "list", data := .seq its n } = { cls := .type "list", data := .seq (its.setIfInBounds i v) n' } := by
  simp [Obj.mapSeq]
theorem setItem_last {prog : Program} {w : World} {A : Around} {E : Value → Shared → Prop} {s : Shared} {l : Addr} {items : Array Value} {t : Tok} {v : Value} {Q : Unit → Shared → Prop} (hl : s.heap.PlainList l items)
    (hn : 0 < items.size) (hQ : ∀ h', h'.PlainList l (items.setIfInBounds (items.size - 1) v) → Heap.SameBut l s.heap h' → Q () { s with heap := h' }) :
    wpAny (model prog w) A (setItem (.ref l) (.int (-1) t) v) Q E s := by
  have hL := hl.isList
  obtain ⟨ne, ho⟩ := hl
  unfold setItem
  try with_reducible refine wpAny_holding ?_
  first | refine wpAny_bind (wpAny_pure ?_) | skip
  refine wpAny_bind (wpAny_sequenceKey hL.typeIs (by decide) ?_)
  refine wpAny_bind (wpAny_callSpecial?_slot (name := Str.ofString "__setitem__") hL.typeIs slot_list_setitem
    (wpAny_call_entry slot_list_setitem hL.typeIs entry_list_setitem ?_ (args_list_setitem _ _ _)))
  show wpAny _ _ (Builtin.List.listSubscript? (.int (-1) t) >>= _) _ _ s
  refine wpAny_bind (wpAny_listSubscript_int (fitsIndex_neg (by omega) (by omega)) ?_)
  have hidx := seqIndex_neg (k := -1) (n := items.size) (by omega) (by omega)
  have e1 : (-1 + (items.size : Int)).toNat = items.size - 1 := by omega
  rw [e1] at hidx
  have hx : items[items.size - 1]? = some items[items.size - 1] := Array.getElem?_eq_getElem (by omega)
  show wpAny _ _ ((Builtin.List.listItems (.ref l) >>= fun xs => pure ((seqIndex? (-1) xs.size).bind fun i => xs[i]?.map (i, ·))) >>= _) _ _ s
  refine wpAny_bind (wpAny_bind ?_)
  show wpAny _ _ (seqItems? (.ref l) >>= _) _ _ s
  refine wpAny_bind (wpAny_seqItems ho rfl (wpAny_pure (wpAny_pure ?_)))
  rw [hidx]
  simp only [Option.bind_some, hx, Option.map_some]
  obtain ⟨n', e2⟩ := plain_setAt (its := items) (n := ne) (i := items.size - 1) (v := v)
  refine wpAny_bind (wpAny_setSeqItemAt ho rfl ?_)
  have fin := hQ (s.heap.update l (Obj.mapSeq (·.setIfInBounds (items.size - 1) v))) ⟨n', by rw [Heap.get?_update_self _ ho (by rw [e2]; rfl), e2]⟩ (Heap.SameBut.update ..)
  first
    | exact wpAny_bind (wpAny_pure (wpAny_pure ⟨.none, rfl, wpAny_pure fin⟩))
    | exact wpAny_pure ⟨.none, rfl, wpAny_pure fin⟩

theorem readsAll_nil_append {h : Heap} : ∀ {vs : List Value} {ds : List PyData} {v : Value} {d : PyData}, ReadsAll h vs ds [] → Reads h v d [] → ReadsAll h (vs ++ [v]) (ds ++ [d]) []
  | [], [], _, _, _, r => .cons r .nil
  | [], _ :: _, _, _, q, _ => nomatch q
  | _ :: _, [], _, _, q, _ => nomatch q
  | _ :: _, _ :: _, _, _, q, r => by
    generalize hx : ([] : List Addr) = as at q
    cases q with
    | @cons _ _ _ _ a b r1 r2 =>
      have := List.append_eq_nil_iff.mp hx.symm
      obtain ⟨rfl, rfl⟩ := this
      exact .cons r1 (readsAll_nil_append r2 r)

theorem St.own' {x : Str} {a : Addr} {ds ds' : List PyData} (S : St W A fe lev g M ρ h) (hm : (x, Ent.own a ds) ∈ ρ) {vs : Array Value} (hp : h'.PlainList a vs) (k : ∀ b o, b ≠ a → h.get? b = some o → h'.get? b = some o) (hr : ReadsAll h' vs.toList ds' []) :
    St W A fe lev g M ((x, .own a ds') :: dropOwn ρ) h' := by
  obtain ⟨v, hv, rfl, haM, vs0, p0, r0⟩ := S.ents _ hm
  obtain ⟨ag, aL, _⟩ := S.mov a haM
  obtain ⟨n0, o0⟩ := p0
  obtain ⟨m, F⟩ := S.fr
  have hn : h'.Ns fe.locals m := F.ns.at' fun o e => k _ o (Ne.symm aL) e
  have notcell : ∀ c v, h.IsCell c v → c ≠ a := fun c v ⟨o, e, d⟩ hc => by
    rw [hc, o0] at e; cases e; cases d
  have cell : ∀ c v, h.IsCell c v → h'.IsCell c v := fun c v ci => by
    have hne := notcell c v ci
    obtain ⟨o, e, d⟩ := ci
    exact ⟨o, k c o hne e, d⟩
  have hasvar : ∀ y u, HasVar fe h y u → HasVar fe h' y u := fun y u ⟨a1, a2, a3⟩ => by
    refine ⟨a1, a2, ?_⟩
    rcases a3 with ⟨b1, m', b2, b3⟩ | ⟨b1, c, b2, b3⟩
    · exact .inl ⟨b1, m', (b2.at' fun o e => k _ o (Ne.symm aL) e), b3⟩
    · exact .inr ⟨b1, c, b2, cell _ _ b3⟩
  have tup : ∀ b o xs n, h.get? b = some o → o.data = .seq xs n → (o.cls = .type "tuple" ∨ b ∉ M) → h'.get? b = some o := fun b o xs n e q c => by
    refine k b o (fun hb => ?_) e
    rcases c with c | c
    · rw [hb, o0] at e; cases e; simp at c
    · exact c (hb ▸ haM)
  refine { S with fr := ⟨m, hn, fun b o e => k b o (fun q => by rw [q, ag] at e; cases e) (F.keep b o e), F.above⟩, cells := fun y c e => ?_, mov := fun b hb => ?_, ents := fun p hp' => ?_ }
  · obtain ⟨q1, q2, v, ci⟩ := S.cells y c e
    exact ⟨q1, q2, v, cell _ _ ci⟩
  · obtain ⟨q1, q2, o, e, r⟩ := S.mov b hb
    by_cases hba : b = a
    · subst hba
      obtain ⟨n', o'⟩ := hp
      exact ⟨q1, q2, _, o', fun v (h : Data.seq vs n' = Data.cell v) => (nomatch h), fun (h : Value.type "list" = Value.type "tuple") => by simp at h⟩
    · exact ⟨q1, q2, o, k b o hba e, r⟩
  · rcases List.mem_cons.mp hp' with rfl | hp'
    · exact ⟨_, hasvar _ _ hv, rfl, haM, vs, hp, hr⟩
    · obtain ⟨hin, hno⟩ := of_dropOwn hp'
      obtain ⟨u, hu, en⟩ := S.ents p hin
      refine ⟨u, hasvar _ _ hu, ?_⟩
      obtain ⟨y, e⟩ := p
      cases e with
      | val d =>
        obtain ⟨as, r, w⟩ := en
        refine ⟨as, reads_but r (fun _ h => h) (fun b hb => (w b hb).1) fun b o xs n e q c => tup b o xs n e q (c.imp id fun hb => (w b hb).2), fun b hb => ⟨?_, (w b hb).2⟩⟩
        obtain ⟨o, xs, n, e, q⟩ := (w b hb).1
        exact ⟨o, xs, n, tup b o xs n e q (.inr (w b hb).2), q⟩
      | own b ds => exact absurd rfl (hno b ds)
      | src b n =>
        obtain ⟨e1, hbM, c, t, ws, ns, dd, hc, hl, r⟩ := en
        refine ⟨e1, hbM, c, t, ws, ns, dictOf_at dd fun o e => k b o (fun hb => ?_) e, hc, ?_, r⟩
        · obtain ⟨o', es, ep, e', q⟩ := dictOf_ex dd
          rw [hb, o0] at e'; cases e'; cases q
        · obtain ⟨o, e2, e3, n2, e4⟩ := hl
          exact ⟨o, tup c o ws n2 e2 e4 (.inr hc), e3, n2, e4⟩

theorem St.own {x : Str} {a : Addr} {ds ds' : List PyData} (S : St W A fe lev g M ρ h) (hm : (x, Ent.own a ds) ∈ ρ) {vs : Array Value} (hp : h'.PlainList a vs) (hs : Heap.SameBut a h h') (hr : ReadsAll h vs.toList ds' []) :
    St W A fe lev g M ((x, .own a ds') :: dropOwn ρ) h' := by
  refine S.own' hm hp (fun b o hb e => hs.extBut b o hb e) (readsAll_but hr (fun _ h => h) (fun _ h => nomatch h) fun b o xs n e q c => hs.extBut b o (fun hb => ?_) e)
  obtain ⟨v, hv, rfl, haM, vs0, ⟨n0, o0⟩, r0⟩ := S.ents _ hm
  rcases c with c | c
  · rw [hb, o0] at e; cases e; simp at c
  · cases c

theorem ex1_append {x : Str} {np apos cpos pos : Pos} {elt : Expr} {a : Addr} {ds : List PyData} {d : PyData} (hm : (x, Ent.own a ds) ∈ ρ) (he : Ev W A fe lev fe (vals ρ) elt d) (hi : imm d = true) (hsz : ds.length < sizeLine)
    (hbase : attributeBase (.Name x np) "append" fe (eval (.Name x np) fe) = eval (.Name x np) fe := by rfl)
    (hfew : ((backTo cpos (starEach [elt] fe)).all (fun x => !x.1) && (backToKw cpos (keywordEach [] fe)).all (fun x => x.1.isSome)
      && decide (([elt] : List Expr).length + ([] : List Keyword).length + (if ([] : List Keyword).isEmpty then 0 else 1) < 30)) = true := by rfl)
    (hline : (apos.endLine == cpos.line) = true := by rfl) (htrees : backTo cpos (starEach [elt] fe) = [(false, eval elt fe)] := by rfl)
    (hint : interactive fe = false := by rfl) (hsw : swapsWith (.Call (.Attribute (.Name x np) "append" apos) [elt] [] cpos) none pos.line fe = pure false := by rfl) :
    Ex1 W A fe lev g M ρ (.Expr (.Call (.Attribute (.Name x np) "append" apos) [elt] [] cpos) pos) (· = (x, .own a (ds ++ [d])) :: dropOwn ρ) Rt := by
  intro s Q E S k _
  obtain ⟨v, hv, rfl, haM, vs0, p0, r0⟩ := S.ents _ hm
  refine wpAny_Expr (wpAny_Call_append hbase hfew hline htrees ?_) hint hsw
  have evn : wpAny (model W.prog W.w) A (eval (.Name x np) fe) (fun v s' => v = .ref a ∧ s' = s) E s := by
    obtain ⟨h1, h2, h3⟩ := hv
    rcases h3 with ⟨b1, m, b2, b3⟩ | ⟨b1 | b1, c, b2, b3⟩
    · exact wpAny_Name (wpAny_loadName_local S.kind b1 b2 b3 ⟨rfl, rfl⟩) h1
    · exact wpAny_Name (wpAny_loadName_cell S.kind b1 b2 b3 ⟨rfl, rfl⟩) h1
    · exact wpAny_Name (wpAny_loadName_free S.kind b1 b2 b3 ⟨rfl, rfl⟩ h2) h1
  refine wpAny_mono evn (fun v s' e => ?_) fun _ _ e => e
  obtain ⟨rfl, rfl⟩ := e
  obtain ⟨n0, o0⟩ := p0
  refine ⟨a, vs0, rfl, ⟨_, n0, o0, rfl, rfl, rfl⟩, he _ _ E S.ok S.vars fun v h₁ tk l r => ?_⟩
  have S1 := S.up l
  have hlen : vs0.size = ds.length := by
    have : RdAll s'.heap vs0.toList ds := ⟨_, r0, fun _ h => nomatch h⟩
    simpa using this.length
  refine wpAny_list_append_plain (s := { s' with heap := h₁, toks := tk }) ⟨n0, l _ _ o0⟩ (fun h₂ hp hs => ?_) (by omega)
  obtain ⟨as, rr, w⟩ := r
  have := imm_as rr hi
  subst this
  refine k _ h₂ tk rfl (fun b o e _ _ hb => hs.extBut b o (fun e' => hb (e' ▸ haM)) (l _ _ e)) (S1.own hm hp hs ?_)
  rw [Array.toList_push]
  exact readsAll_nil_append (ReadsAll.keeps l r0) rr
end
noncomputable def compEnvD (scope : Scope) (cl : List (Str × Addr)) (C : Addr) (env : Env) : Env :=
  { scope := relabel scope env, locals := C, globals := env.globals, cells := cellsFrom (C + 1) scope.names cl, qual := env.qual, func := none, code := env.code, frame := env.frame, builtins := env.builtins }

noncomputable def CTurn (M : Model) (A : Around) (e : Expr) (depth : Nat) (it acc : Value) (env : Env) (target : Expr) (body : Sem Unit) : Prop :=
  ∀ (s : Shared) (Q : Fin → Shared → Prop) (E : Value → Shared → Prop),
    wpAny M A (pyNext it) (fun r s₁ => match r with
      | none => Q (.done .next) s₁
      | some v => wpAny M A (letOwnedTupleGo target it v) (fun _ s₂ => wpAny M A (assign target env v) (fun _ s₃ => wpAny M A body (fun _ s₄ => Q (.again (.compLoop e depth it acc env)) s₄) E s₃) E s₂) E s₁) E s →
    wpAny M A (compTurn e depth it acc env) Q E s

noncomputable def emit1 (ifs : List Expr) (elt : Expr) (acc : Value) (env : Env) : Sem Unit := do
  let ok ← forIn ifs true fun c r => if r = true then do let ok ← isTrue c env (eval c env); pure (ForInStep.yield ok) else pure (ForInStep.yield r)
  if ok = true then (do let x ← eval elt env; let _ ← call (.builtin "list.append") [acc, x]; pure ()) else pure ()

section
variable {M : Model} {A : Around} {E : Value → Shared → Prop} {s : Shared}
theorem bind_mono {α β : Type} {m : Sem α} {f : α → Sem β} {P : α → Shared → Prop} {Q : β → Shared → Prop} (h : wpAny M A m P E s) (k : ∀ a s', P a s' → wpAny M A (f a) Q E s') : wpAny M A (m >>= f) Q E s :=
  wpAny_bind (wpAny_mono h k fun _ _ x => x)
theorem cturn1 {elt target iter : Expr} {ifs : List Expr} {scope : Scope} {pos : Pos} {it acc : Value} {env : Env} :
    CTurn M A (.ListComp elt [⟨target, iter, ifs, 0⟩] scope pos) 0 it acc env target (emit1 ifs elt acc env) := by
  intro s Q E h
  rw [compTurn_list]
  refine wpAny_bind (wpAny_standAt (bind_mono h fun r s₁ h₁ => ?_))
  cases r with
  | none => exact wpAny_pure h₁
  | some v =>
    refine bind_mono h₁ fun _ s₂ h₂ => bind_mono h₂ fun _ s₃ h₃ => ?_
    unfold emit1 at h₃
    intro Γ p hΓ
    have h4 := h₃ Γ p hΓ
    rw [Sem.wp_bind'] at h4 ⊢
    refine Sem.wp_mono _ Γ _ (fun ok p' s' h5 => ?_) (fun _ _ _ x => x) _ _ h4
    cases ok with
    | false =>
      simp only [Bool.false_eq_true, if_false] at h5 ⊢
      exact h5
    | true =>
      simp only [if_true] at h5 ⊢
      simp only [Sem.wp_bind'] at h5 ⊢
      exact h5
end

structure Cv (cenv : Env) (D : Addr) (oc : List Addr) (ρ : List (Str × PyData)) (h : Heap) : Prop where
  kind : cenv.scope.kind = .function
  globs : cenv.globals = mainGlobals
  bltn : cenv.builtins = builtinsNs
  ns : ∃ m, h.Ns cenv.locals m
  own : ∀ c ∈ oc, ∃ v, h.IsCell c v
  cells : ∀ x c, cenv.cells.lookup x = some c → ∃ v, h.IsCell c v
  apart : ∀ x y c, c ∈ oc → cenv.cells.lookup x = some c → cenv.cells.lookup y = some c → x = y
  list : ∃ ys, h.PlainList D ys
  vars : ∀ p ∈ ρ, ∃ v, HasVar cenv h p.1 v ∧ RdOff [D] h v p.2

section
variable {cenv : Env} {D : Addr} {oc : List Addr} {ρ ρ' : List (Str × PyData)} {h h' : Heap}
theorem Cv.toVars (V : Cv cenv D oc ρ h) : Vars cenv ρ h := ⟨V.kind, V.globs, V.bltn, V.cells, fun p hp => let ⟨v, a, b⟩ := V.vars p hp; ⟨v, a, b.rd⟩⟩
theorem Cv.sub (V : Cv cenv D oc ρ h) (k : ∀ p ∈ ρ', p ∈ ρ) : Cv cenv D oc ρ' h := { V with vars := fun p hp => V.vars p (k p hp) }
theorem RdOff.up {M : List Addr} {v : Value} {d : PyData} (r : RdOff M h v d) (k : Le h h') : RdOff M h' v d := let ⟨as, q, w⟩ := r; ⟨as, Reads.keeps k q, fun a ha => ⟨(w a ha).1.up k, (w a ha).2⟩⟩
theorem Cv.up (V : Cv cenv D oc ρ h) (k : Le h h') : Cv cenv D oc ρ h' :=
  { V with
    ns := let ⟨m, n⟩ := V.ns; ⟨m, n.keeps k⟩
    own := fun c hc => let ⟨v, q⟩ := V.own c hc; ⟨v, q.keeps k⟩
    cells := fun x c e => let ⟨v, q⟩ := V.cells x c e; ⟨v, q.keeps k⟩
    list := let ⟨ys, p⟩ := V.list; ⟨ys, p.at fun o e => k _ o e⟩
    vars := fun p hp => let ⟨v, a, b⟩ := V.vars p hp; ⟨v, a.up k, b.up k⟩ }
theorem Cv.but {x : Addr} (V : Cv cenv D oc ρ h) (hx : (¬ SeqAt h x ∧ x ≠ D) ∨ x = D) (hn : ∀ m, ¬ h.Ns x m) (hc : ∀ v, ¬ h.IsCell x v) (k : ∀ b o, b ≠ x → h.get? b = some o → h'.get? b = some o) (hD : ∃ ys, h'.PlainList D ys) : Cv cenv D oc ρ h' := by
  obtain ⟨m, n⟩ := V.ns
  have nx : cenv.locals ≠ x := fun e => hn m (e ▸ n)
  have cell : ∀ c v, h.IsCell c v → h'.IsCell c v := fun c v q => by
    obtain ⟨o, e, d⟩ := q
    exact ⟨o, k c o (fun e' => hc v ⟨o, e' ▸ e, d⟩) e, d⟩
  refine { V with ns := ⟨m, n.at' fun o e => k _ o nx e⟩, own := fun c hc => let ⟨v, q⟩ := V.own c hc; ⟨v, cell c v q⟩, cells := fun y c e => let ⟨v, q⟩ := V.cells y c e; ⟨v, cell c v q⟩, list := hD, vars := fun p hp => ?_ }
  obtain ⟨v, ⟨a1, a2, a3⟩, as, r, w⟩ := V.vars p hp
  obtain ⟨ys0, n0, d0⟩ := V.list
  have tup : ∀ b o xs n, h.get? b = some o → o.data = .seq xs n → (o.cls = .type "tuple" ∨ b ∈ as) → h'.get? b = some o := fun b o xs n e q c => by
    refine k b o (fun hb => ?_) e
    rcases hx with hx | hx
    · exact hx.1 ⟨o, xs, n, hb ▸ e, q⟩
    · rcases c with c | c
      · rw [hb, hx, d0] at e; cases e; simp at c
      · exact (w b c).2 (by rw [hb, hx]; exact .head _)
  refine ⟨v, ⟨a1, a2, ?_⟩, as, reads_but r (fun _ h => h) (fun a ha => (w a ha).1) tup, fun a ha => ⟨?_, (w a ha).2⟩⟩
  · rcases a3 with ⟨b1, m', b2, b3⟩ | ⟨b1, c, b2, b3⟩
    · exact .inl ⟨b1, m', b2.at' fun o e => k _ o nx e, b3⟩
    · exact .inr ⟨b1, c, b2, cell _ _ b3⟩
  · obtain ⟨o, xs, n, e, q⟩ := (w a ha).1
    exact ⟨o, xs, n, tup a o xs n e q (.inr ha), q⟩
end

noncomputable def Fc (cenv : Env) (D : Addr) (oc : List Addr) (h h' : Heap) : Prop := ∀ b o, h.get? b = some o → b ≠ cenv.locals → b ∉ oc → b ≠ D → h'.get? b = some o
theorem Fc.trans {cenv : Env} {D : Addr} {oc : List Addr} {a b c : Heap} (x : Fc cenv D oc a b) (y : Fc cenv D oc b c) : Fc cenv D oc a c := fun p o e h1 h2 h3 => y p o (x p o e h1 h2 h3) h1 h2 h3
theorem Fc.of {cenv : Env} {D : Addr} {oc : List Addr} {a b : Heap} (x : Le a b) : Fc cenv D oc a b := fun p o e _ _ _ => x p o e

theorem readsAll_nil_inv {h : Heap} {v : Value} {d : PyData} {vs : List Value} {ds : List PyData} (q : ReadsAll h (v :: vs) (d :: ds) []) : Reads h v d [] ∧ ReadsAll h vs ds [] := by
  have key : ∀ as, as = [] → ReadsAll h (v :: vs) (d :: ds) as → Reads h v d [] ∧ ReadsAll h vs ds [] := fun as e r => by
    cases r with
    | @cons _ _ _ _ b c r1 r2 =>
      obtain ⟨rfl, rfl⟩ := List.append_eq_nil_iff.mp e
      exact ⟨r1, r2⟩
  exact key _ rfl q

noncomputable def Tc (W : Wd) (A : Around) (cenv : Env) (D : Addr) (oc : List Addr) (target : Expr) (d : PyData) (ρ ρ' : List (Str × PyData)) : Prop :=
  ∀ (v : Value) (s : Shared) (Q : Unit → Shared → Prop) (E : Value → Shared → Prop), Cv cenv D oc ρ s.heap → Reads s.heap v d [] →
    (∀ h' tk, Fc cenv D oc s.heap h' → (∀ ys, s.heap.PlainList D ys → h'.PlainList D ys) → Cv cenv D oc ρ' h' → Q () { s with heap := h', toks := tk }) → wpAny (model W.prog W.w) A (assign target cenv v) Q E s

section
variable {W : Wd} {A : Around} {fe : Env} {lev : Nat} {cenv : Env} {D : Addr} {oc : List Addr} {ρ ρ' : List (Str × PyData)} {h h' : Heap}

structure Nc (cenv : Env) (oc : List Addr) (ρ : List (Str × PyData)) (x : Str) : Prop where
  kind : cenv.kindOf x = some .local ∨ (cenv.kindOf x = some .cell ∧ ∃ c, cenv.cells.lookup x = some c ∧ c ∈ oc)
  new : (ρ.all fun p => p.1 != x) = true
  h1 : (x == ("__debug__" : Str)) = false
  h2 : (x == ("__classdict__" : Str)) = false

theorem list_seq {ys : Array Value} (p : h.PlainList D ys) : SeqAt h D := let ⟨n, e⟩ := p; ⟨_, ys, n, e, rfl⟩

theorem Cv.store {x : Str} {v : Value} {d : PyData} {s : Shared} {Q : Unit → Shared → Prop} {E : Value → Shared → Prop} (V : Cv cenv D oc ρ s.heap) (n : Nc cenv oc ρ x) (r : RdOff [D] s.heap v d)
    (k : ∀ h' tk, Fc cenv D oc s.heap h' → (∀ ys, s.heap.PlainList D ys → h'.PlainList D ys) → Cv cenv D oc ((x, d) :: ρ) h' → Q () { s with heap := h', toks := tk }) : wpAny (model W.prog W.w) A (storeName cenv x v) Q E s := by
  obtain ⟨m, hm⟩ := V.ns
  obtain ⟨ys0, pl0⟩ := V.list
  have ne : ∀ p ∈ ρ, p.1 ≠ x := fun p hp => by have := List.all_eq_true.mp n.new p hp; simpa using this
  have hk := n.kind
  rcases hk with hk | ⟨hk, c, hc, hco⟩
  · refine wpAny_storeName_local hk hm (fun h' hn hs => ?_) (by rw [V.kind]; rfl)
    have up : ∀ b o, b ≠ cenv.locals → s.heap.get? b = some o → h'.get? b = some o := fun b o hb e => hs.extBut b o hb e
    have nsq := ns_not_seq hm
    have hDL : D ≠ cenv.locals := fun e => nsq (e ▸ list_seq pl0)
    have cell : ∀ c v, s.heap.IsCell c v → h'.IsCell c v := fun c v q => q.sameBut hs fun e => ns_not_cell hm (e ▸ q)
    have rd : ∀ v d, RdOff [D] s.heap v d → RdOff [D] h' v d := fun v d ⟨as, r, w⟩ => by
      have sq : ∀ b, SeqAt s.heap b → SeqAt h' b := fun b ⟨o, xs, n, e, q⟩ => ⟨o, xs, n, up b o (fun e' => nsq ⟨o, xs, n, e' ▸ e, q⟩) e, q⟩
      exact ⟨as, reads_but r (fun _ h => h) (fun a ha => (w a ha).1) fun b o xs n e q _ => up b o (fun e' => nsq ⟨o, xs, n, e' ▸ e, q⟩) e, fun a ha => ⟨sq a (w a ha).1, (w a ha).2⟩⟩
    have pl : ∀ ys, s.heap.PlainList D ys → h'.PlainList D ys := fun ys p => p.at fun o e => up D o hDL e
    refine k h' _ (fun b o e h1 _ _ => up b o h1 e) pl { V with ns := ⟨_, hn⟩, own := fun c hc => let ⟨v, q⟩ := V.own c hc; ⟨v, cell c v q⟩, cells := fun y c e => let ⟨v, q⟩ := V.cells y c e; ⟨v, cell c v q⟩, list := ⟨_, pl _ pl0⟩, vars := fun p hp => ?_ }
    rcases List.mem_cons.mp hp with rfl | hp
    · exact ⟨v, ⟨n.h1, n.h2, .inl ⟨hk, _, hn, by simp⟩⟩, rd _ _ r⟩
    · obtain ⟨u, ⟨a1, a2, a3⟩, r'⟩ := V.vars p hp
      refine ⟨u, ⟨a1, a2, ?_⟩, rd _ _ r'⟩
      rcases a3 with ⟨b1, m', b2, b3⟩ | ⟨b1, c, b2, b3⟩
      · refine .inl ⟨b1, _, hn, ?_⟩
        have em : m' p.1 = m p.1 := by rw [b2.eq_nsMap, hm.eq_nsMap]
        simp only [ne p hp, if_false]
        rw [← em]; exact b3
      · exact .inr ⟨b1, c, b2, cell _ _ b3⟩
  · obtain ⟨v₀, ci⟩ := V.own c hco
    refine wpAny_storeName_cell V.kind hk hc ci fun h' hi hs => ?_
    have up : ∀ b o, b ≠ c → s.heap.get? b = some o → h'.get? b = some o := fun b o hb e => hs.extBut b o hb e
    have nsq := cell_not_seq ci
    have hDc : D ≠ c := fun e => nsq (e ▸ list_seq pl0)
    have hLc : cenv.locals ≠ c := fun e => ns_not_cell hm (e ▸ ci)
    have rd : ∀ v d, RdOff [D] s.heap v d → RdOff [D] h' v d := fun v d ⟨as, r, w⟩ => by
      have sq : ∀ b, SeqAt s.heap b → SeqAt h' b := fun b ⟨o, xs, n, e, q⟩ => ⟨o, xs, n, up b o (fun e' => nsq ⟨o, xs, n, e' ▸ e, q⟩) e, q⟩
      exact ⟨as, reads_but r (fun _ h => h) (fun a ha => (w a ha).1) fun b o xs n e q _ => up b o (fun e' => nsq ⟨o, xs, n, e' ▸ e, q⟩) e, fun a ha => ⟨sq a (w a ha).1, (w a ha).2⟩⟩
    have pl : ∀ ys, s.heap.PlainList D ys → h'.PlainList D ys := fun ys p => p.at fun o e => up D o hDc e
    have cell : ∀ b, (∃ v, s.heap.IsCell b v) → ∃ v, h'.IsCell b v := fun b ⟨v, q⟩ => by
      by_cases hb : b = c
      · exact ⟨_, hb ▸ hi⟩
      · exact ⟨v, q.sameBut hs hb⟩
    refine k h' s.toks (fun b o e _ h2 _ => up b o (fun e' => h2 (e' ▸ hco)) e) pl { V with ns := ⟨m, hm.sameBut hs hLc⟩, own := fun b hb => cell b (V.own b hb), cells := fun y b e => cell b (V.cells y b e), list := ⟨_, pl _ pl0⟩, vars := fun p hp => ?_ }
    rcases List.mem_cons.mp hp with rfl | hp
    · exact ⟨v, ⟨n.h1, n.h2, .inr ⟨.inl hk, c, hc, hi⟩⟩, rd _ _ r⟩
    · obtain ⟨u, ⟨a1, a2, a3⟩, r'⟩ := V.vars p hp
      refine ⟨u, ⟨a1, a2, ?_⟩, rd _ _ r'⟩
      rcases a3 with ⟨b1, m', b2, b3⟩ | ⟨b1, c', b2, b3⟩
      · exact .inl ⟨b1, m', b2.sameBut hs hLc, b3⟩
      · have hcc : c' ≠ c := fun e => ne p hp (V.apart _ _ c hco (e ▸ b2) hc)
        exact .inr ⟨b1, c', b2, b3.sameBut hs hcc⟩
theorem tc_name {x : Str} {pos : Pos} {d : PyData} (n : Nc cenv oc ρ x) : Tc W A cenv D oc (.Name x pos) d ρ ((x, d) :: ρ) :=
  fun v s Q E V r k => wpAny_assign_Name (V.store n ⟨[], r, fun _ h => nomatch h⟩ k)
theorem tc_pair {x y : Str} {px py pos : Pos} {k : Nat} {d e : PyData} (hA : A.handled = none) (n : Nc cenv oc ρ x) (m : Nc cenv oc ((x, d) :: ρ) y) : Tc W A cenv D oc (.Tuple [.Name x px, .Name y py] k pos) (.tuple [d, e]) ρ ((y, e) :: (x, d) :: ρ) := by
  intro v s Q E V r kk
  have r0 : Rd s.heap v (.tuple [d, e]) := ⟨_, r, fun _ h => nomatch h⟩
  cases r with
  | @tuple a o vs nn _ _ h1 h2 h3 h4 =>
    have hsz : vs.size = 2 := by
      have : RdAll s.heap vs.toList [d, e] := ⟨_, h4, fun _ h => nomatch h⟩
      simpa using this.length
    refine wpAny_assign_Tuple hA ⟨o, h1, h2, _, h3⟩ (by rw [hsz]; rfl) rfl fun h' ex => ?_
    have l := le_of_ext ex
    obtain ⟨u, u', e1, q1, q2⟩ := rdAll2 (h := s.heap) (vs := vs.toList) ⟨_, h4, fun _ h => nomatch h⟩
    rw [e1] at h4 ⊢
    obtain ⟨r1, h5⟩ := readsAll_nil_inv h4
    obtain ⟨r2, _⟩ := readsAll_nil_inv h5
    refine assignInOrder_cons (wpAny_assign_Name ((V.up l).store (s := { s with heap := h' }) n ⟨[], Reads.keeps l r1, fun _ h => nomatch h⟩ fun h₁ tk f p V1 => ?_))
    have r2' : Reads h₁ u' e [] := by
      obtain ⟨m', hm⟩ := (V.up l).ns
      refine reads_but (Reads.keeps l r2) (fun _ h => h) (fun _ h => nomatch h) fun b o xs n e1 q c => f b o e1 (fun e' => ns_not_seq hm ⟨o, xs, n, e' ▸ e1, q⟩) (fun hb => ?_) (fun hb => ?_)
      · obtain ⟨v, ci⟩ := (V.up l).own b hb
        exact cell_not_seq ci ⟨o, xs, n, e1, q⟩
      · obtain ⟨ys, n0, e0⟩ := (V.up l).list
        rcases c with c | c
        · rw [hb, e0] at e1; cases e1; simp at c
        · cases c
    refine assignInOrder_cons (wpAny_assign_Name (V1.store (s := { s with heap := h₁, toks := tk }) m ⟨[], r2', fun _ h => nomatch h⟩ fun h₂ tk2 f2 p2 V2 => assignInOrder_nil ?_))
    exact kk h₂ tk2 (((Fc.of l).trans f).trans f2) (fun ys q => p2 ys (p ys (q.at fun o e => l _ o e))) V2

theorem Cv.tupOff (V : Cv cenv D oc ρ h) {b : Addr} {o : Obj} {xs : Array Value} {n : Nat} (e : h.get? b = some o) (q : o.data = .seq xs n) (c : o.cls = .type "tuple") : b ≠ cenv.locals ∧ b ∉ oc ∧ b ≠ D := by
  obtain ⟨m, hm⟩ := V.ns
  refine ⟨fun e' => ns_not_seq hm ⟨o, xs, n, e' ▸ e, q⟩, fun hb => ?_, fun hb => ?_⟩
  · obtain ⟨v, ci⟩ := V.own b hb
    exact cell_not_seq ci ⟨o, xs, n, e, q⟩
  · obtain ⟨ys, n0, e0⟩ := V.list
    rw [hb, e0] at e; cases e; simp at c
theorem Cv.keepAll (V : Cv cenv D oc ρ h) (f : Fc cenv D oc h h') {vs : List Value} {ds : List PyData} (r : ReadsAll h vs ds []) : ReadsAll h' vs ds [] :=
  readsAll_but r (fun _ h => h) (fun _ h => nomatch h) fun b o xs n e q c => by
    rcases c with c | c
    · obtain ⟨a1, a2, a3⟩ := V.tupOff e q c
      exact f b o e a1 a2 a3
    · cases c

noncomputable def Bd (W : Wd) (A : Around) (fe : Env) (lev : Nat) (cenv : Env) (D : Addr) (oc : List Addr) (G : Heap) (ρ' ρ : List (Str × PyData)) (body : Sem Unit) (o : List PyData) : Prop :=
  ∀ (s : Shared) (ys : Array Value) (outs : List PyData) (Q : Unit → Shared → Prop) (E : Value → Shared → Prop), OK W A fe lev s.heap → Le G s.heap → Cv cenv D oc ρ' s.heap → s.heap.PlainList D ys → ReadsAll s.heap ys.toList outs [] → outs.length + o.length ≤ sizeLine →
    (∀ h' tk ys', Fc cenv D oc s.heap h' → h'.PlainList D ys' → ReadsAll h' ys'.toList (outs ++ o) [] → Cv cenv D oc ρ h' → Q () { s with heap := h', toks := tk }) → wpAny (model W.prog W.w) A body Q E s

theorem comp_core {elt : Expr} {gens : List Comprehension} {scope : Scope} {pos : Pos} {depth : Nat} {target : Expr} {body : Sem Unit} {I : Addr} {fp : List Addr} {n : Nat} {P : Nat → Value → Prop} {T : Nat → Heap → Prop}
    (Wk : Walks W.prog W.w A I fp [I] n P T) {G : Heap} {ds : List PyData} (hn : n = ds.length) (hP : ∀ i v, P i v → ∃ d, ds[i]? = some d ∧ Reads G v d []) (hT : ∀ i h, T i h → ItSafe h I)
    (hfp : ∀ b ∈ fp, b ≠ cenv.locals ∧ b ∉ oc ∧ b ≠ D) (hGI : G.get? I = none) (hGD : G.get? D = none) (hGC : G.get? cenv.locals = none) (hGo : ∀ c ∈ oc, G.get? c = none) (okG : OK W A fe lev G)
    (ct : CTurn (model W.prog W.w) A (.ListComp elt gens scope pos) depth (.ref I) (.ref D) cenv target body) (out : PyData → List PyData) (pre : List PyData) (hsz : (pre ++ ds.flatMap out).length ≤ sizeLine)
    (turn : ∀ d ∈ ds, ∃ ρ', Tc W A cenv D oc target d ρ ρ' ∧ Bd W A fe lev cenv D oc G ρ' ρ body (out d))
    {s : Shared} {R : Result → Shared → Prop} {ys0 : Array Value} (V : Cv cenv D oc ρ s.heap) (t0 : T 0 s.heap) (l0 : Le G s.heap) (pl : s.heap.PlainList D ys0) (r0 : ReadsAll s.heap ys0.toList pre [])
    (k : ∀ h' tk ys, (∀ b o, s.heap.get? b = some o → b ≠ I → b ≠ cenv.locals → b ∉ oc → b ≠ D → h'.get? b = some o) → Le G h' → h'.PlainList D ys → ReadsAll h' ys.toList (pre ++ ds.flatMap out) [] → Cv cenv D oc ρ h' → R (.ok .next) { s with heap := h', toks := tk }) :
    codeAny (model W.prog W.w) A (.compLoop (.ListComp elt gens scope pos) depth (.ref I) (.ref D) cenv) R s := by
  obtain ⟨fI1, fI2, fI3⟩ := hfp I (Wk.sub I (List.mem_singleton.mpr rfl))
  have gup : ∀ {h h' : Heap}, Le G h → Fc cenv D oc h h' → Le G h' := fun l f b o e => f b o (l b o e) (fun e' => by rw [e', hGC] at e; cases e) (fun hb => by rw [hGo b hb] at e; cases e) (fun e' => by rw [e', hGD] at e; cases e)
  refine codeAny_loop (c := .compLoop (.ListComp elt gens scope pos) depth (.ref I) (.ref D) cenv) rfl (fun k s' => ∃ h' tk i ys, s' = { s with heap := h', toks := tk } ∧ T i h' ∧ Le G h' ∧ Cv cenv D oc ρ h' ∧ h'.PlainList D ys ∧ ReadsAll h' ys.toList (pre ++ (ds.take i).flatMap out) [] ∧ i ≤ n ∧ k = n + 1 - i ∧
    (∀ b o, s.heap.get? b = some o → b ≠ I → b ≠ cenv.locals → b ∉ oc → b ≠ D → h'.get? b = some o)) ?_ (n + 1)
    ⟨s.heap, s.toks, 0, ys0, rfl, t0, l0, V, pl, by simpa using r0, Nat.zero_le _, rfl, fun _ _ e _ _ _ _ => e⟩
  rintro k' s' ⟨H, tk, i, ys, rfl, t, l, V', p', r', hi, rfl, hf⟩
  show wpAny _ A ((compTurn (.ListComp elt gens scope pos) depth (.ref I) (.ref D) cenv).onRaise (fun x => do noteFrame x cenv; theTreesLotGoes x)) _ _ _
  refine wpAny_noted (ct _ _ _ ?_)
  have stepI : ∀ h₁ : Heap, (∀ b o, b ∉ [I] → H.get? b = some o → h₁.get? b = some o) → Le G h₁ ∧ Cv cenv D oc ρ h₁ ∧ h₁.PlainList D ys ∧ ReadsAll h₁ ys.toList (pre ++ (ds.take i).flatMap out) [] := fun h₁ k₁ => by
    have kk : ∀ b o, b ≠ I → H.get? b = some o → h₁.get? b = some o := fun b o hb e => k₁ b o (by simpa using hb) e
    have sf := hT _ _ t
    have pD : h₁.PlainList D ys := p'.at fun o e => kk D o (Ne.symm fI3) e
    refine ⟨fun b o e => kk b o (fun e' => by rw [e', hGI] at e; cases e) (l b o e), V'.but (.inl ⟨sf.seq, fI3⟩) (fun m ⟨o, es, ep, e, d, _⟩ => ?_) (fun v ⟨o, e, d⟩ => ?_) kk ⟨ys, pD⟩, pD,
      readsAll_but r' (fun _ h => h) (fun _ h => nomatch h) fun b o xs n e q c => kk b o (fun e' => sf.seq ⟨o, xs, n, e' ▸ e, q⟩) e⟩
    · obtain ⟨o', _, _, e', _, d', _⟩ := sf
      rw [e] at e'; cases e'; rw [d] at d'; cases d'
    · obtain ⟨o', _, _, e', _, d', _⟩ := sf
      rw [e] at e'; cases e'; rw [d] at d'; cases d'
  by_cases hlt : i < n
  · refine Wk.item i { s with heap := H, toks := tk } _ _ hlt t fun v h₁ tk₁ hPv t₁ k₁ => ?_
    obtain ⟨l1, V1, p1, r1⟩ := stepI h₁ k₁
    obtain ⟨d, hd, rd⟩ := hP i v hPv
    obtain ⟨ρ', tc, bd⟩ := turn d (List.mem_of_getElem? hd)
    refine owned_go (hT _ _ t₁) ?_
    refine tc v { s with heap := h₁, toks := tk₁ } _ _ V1 (Reads.keeps l1 rd) fun h₂ tk₂ f2 q2 V2 => ?_
    have ht : ds.take (i + 1) = ds.take i ++ [d] := by rw [List.take_add_one, hd]; rfl
    have e2 : (pre ++ (ds.take i).flatMap out) ++ out d = pre ++ (ds.take (i + 1)).flatMap out := by rw [ht, List.flatMap_append]; simp
    have hlen : (pre ++ (ds.take i).flatMap out).length + (out d).length ≤ sizeLine := by
      rw [← List.length_append, e2]
      refine Nat.le_trans ?_ hsz
      have e3 : ds.flatMap out = (ds.take (i + 1)).flatMap out ++ (ds.drop (i + 1)).flatMap out := by rw [← List.flatMap_append, List.take_append_drop]
      rw [e3]
      simp only [List.length_append]
      omega
    have l2 := gup l1 f2
    refine bd { s with heap := h₂, toks := tk₂ } ys _ _ _ (okG.up l2) l2 V2 (q2 _ p1) (V1.keepAll f2 r1) hlen fun h₃ tk₃ ys₃ f3 p3 r3 V3 => ?_
    have fr : ∀ b ∈ fp, ∀ o, h₁.get? b = some o → h₃.get? b = some o := fun b hb o e => f3 b o (f2 b o e (hfp b hb).1 (hfp b hb).2.1 (hfp b hb).2.2) (hfp b hb).1 (hfp b hb).2.1 (hfp b hb).2.2
    exact ⟨rfl, n + 1 - (i + 1), by omega, h₃, tk₃, i + 1, ys₃, rfl, Wk.frame _ _ _ t₁ fr, gup l2 f3, V3, p3, by rw [← e2]; exact r3, hlt, rfl, fun b o e a1 a2 a3 a4 => f3 b o (f2 b o (k₁ b o (by simpa using a1) (hf b o e a1 a2 a3 a4)) a2 a3 a4) a2 a3 a4⟩
  · have hin : i = n := by omega
    subst hin
    refine Wk.done { s with heap := H, toks := tk } _ _ t fun h₁ tk₁ k₁ => ?_
    obtain ⟨l1, V1, p1, r1⟩ := stepI h₁ k₁
    rw [hn, List.take_length] at r1
    exact k h₁ tk₁ ys (fun b o e a1 a2 a3 a4 => k₁ b o (by simpa using a1) (hf b o e a1 a2 a3 a4)) l1 p1 r1 V1
end
theorem cellsFrom_app : ∀ (names : List (Str × NameKind)) (n : Nat) (acc acc' : List (Str × Addr)), cellsFrom n names (acc ++ acc') = cellsFrom n names acc ++ acc'
  | [], _, _, _ => rfl
  | (x, k) :: r, n, acc, acc' => by
    unfold cellsFrom
    split
    · rw [← List.cons_append]; exact cellsFrom_app r (n + 1) ((x, n) :: acc) acc'
    · exact cellsFrom_app r n acc acc'
theorem cellsFrom_acc (names : List (Str × NameKind)) (n : Nat) (acc : List (Str × Addr)) : cellsFrom n names acc = cellsFrom n names [] ++ acc := by
  have := cellsFrom_app names n [] acc
  simpa using this

section
variable {M : Model} {A : Around} {E : Value → Shared → Prop} {s : Shared}
theorem newEnv_comp {scope : Scope} {globals : Addr} {cl : List (Str × Addr)} {qual : Str} {env : Env} {Q : Env → Shared → Prop}
    (hQ : ∀ h', h'.Ns s.heap.objs.size (fun _ => none) → Le s.heap h' → CellsOk h' (s.heap.objs.size + 1) (cellsFrom (s.heap.objs.size + 1) scope.names []) →
      Q { scope, locals := s.heap.objs.size, globals, cells := cellsFrom (s.heap.objs.size + 1) scope.names cl, qual, func := none, code := env.code, frame := env.frame, builtins := env.builtins } { s with heap := h' }) :
    wpAny M A (newFunctionEnv scope globals cl [] qual none .none (some env)) Q E s := by
  simp only [newFunctionEnv, Option.isSome_some, if_true]
  refine wpAny_bind (wpAny_alloc ?_)
  refine wpAny_bind (wpAny_layCells _ (fun name kind cells => by cases hkc : kind == NameKind.cell <;> simp) _ _ _ _ ?_)
  have ok := cellsFrom_ok scope.names (s.heap.push { cls := .type "dict", data := .dict #[] }) (s.heap.objs.size + 1) [] ⟨fun _ _ hm => (nomatch hm), List.Pairwise.nil⟩ (by rw [Heap.size_push]; exact Nat.le_refl _)
  rw [Heap.size_push] at ok
  rw [show ({ s with heap := s.heap.push { cls := .type "dict", data := .dict #[] } } : Shared).heap.objs.size = s.heap.objs.size + 1 from Heap.size_push ..]
  refine wpAny_bind ?_
  rw [List.forIn_nil]
  refine wpAny_pure (wpAny_pure ?_)
  exact hQ _ ((Heap.Ns.new s.heap (.type "dict")).keeps (pushCells_keeps _ _)) (fun b o e => pushCells_keeps _ _ b o (Heap.get?_push_of_some _ e)) ok
end

noncomputable def ownCells (scope : Scope) (C : Addr) : List Addr := (cellsFrom (C + 1) scope.names []).map (·.2)

structure Cap (env : Env) (scope : Scope) (cl : List (Str × Addr)) (x : Str) : Prop where
  out : env.kindOf x = some .cell ∨ env.kindOf x = some .free
  here : ∀ C, (compEnvD scope cl C env).kindOf x = some .cell ∨ (compEnvD scope cl C env).kindOf x = some .free
  same : ∀ C, (compEnvD scope cl C env).cells.lookup x = env.cells.lookup x
noncomputable def ClOk (env : Env) : List (Str × Addr) → Prop
  | [] => True
  | p :: r => env.cells.lookup p.1 = some p.2 ∧ ClOk env r
theorem ClOk.mem {env : Env} : ∀ {cl : List (Str × Addr)}, ClOk env cl → ∀ p ∈ cl, env.cells.lookup p.1 = some p.2
  | _ :: _, h, p, hp => by
    rcases List.mem_cons.mp hp with rfl | hp
    · exact h.1
    · exact ClOk.mem h.2 p hp

section
variable {W : Wd} {A : Around} {fe : Env} {lev : Nat} {env : Env} {ρ ρ₀ : List (Str × PyData)}

theorem comp_block {elt target iter : Expr} {ifs : List Expr} {rest : List Comprehension} {scope : Scope} {pos : Pos} {cl : List (Str × Addr)} {I : Addr} {fp : List Addr} {n : Nat} {P : Nat → Value → Prop} {T : Nat → Heap → Prop}
    (Wk : Walks W.prog W.w A I fp [I] n P T) {G : Heap} {ds : List PyData} (hn : n = ds.length) (hP : ∀ i v, P i v → ∃ d, ds[i]? = some d ∧ Reads G v d []) (hT : ∀ i h, T i h → ItSafe h I)
    (okG : OK W A fe lev G) (vG : Vars env ρ G) (hcl : ClOk env cl) (hcap : ∀ p ∈ ρ₀, p ∈ ρ ∧ Cap env scope cl p.1) {s : Shared} (lG : Le G s.heap) (hGs : G.objs.size ≤ s.heap.objs.size) (hGI : G.get? I = none) (hfp : ∀ b ∈ fp, b < s.heap.objs.size) (t0 : T 0 s.heap)
    (out : PyData → List PyData) (hsz : (ds.flatMap out).length ≤ sizeLine) (hkind : scope.kind = .function)
    {body : Value → Env → Sem Unit} (ct : ∀ D C, CTurn (model W.prog W.w) A (.ListComp elt (⟨target, iter, ifs, 0⟩ :: rest) scope pos) 0 (.ref I) (.ref D) (compEnvD scope cl C env) target (body (.ref D) (compEnvD scope cl C env)))
    (turn : ∀ C D, G.objs.size ≤ D → D < C → ∀ d ∈ ds, ∃ ρ', Tc W A (compEnvD scope cl C env) D (ownCells scope C) target d ρ₀ ρ' ∧ Bd W A fe lev (compEnvD scope cl C env) D (ownCells scope C) G ρ' ρ₀ (body (.ref D) (compEnvD scope cl C env)) (out d))
    {RR : Value → Addr → Result → Shared → Prop} {E : Value → Shared → Prop}
    (k : ∀ D C h' tk ys m, D ≠ C → G.get? D = none → G.get? C = none → Le G h' → h'.Ns C m → h'.PlainList D ys → ReadsAll h' ys.toList (ds.flatMap out) [] → RR (.ref D) C (.ok .next) { s with heap := h', toks := tk }) :
    wpAny (model W.prog W.w) A (newList []) (fun acc s₃ => wpAny (model W.prog W.w) A (newFunctionEnv scope env.globals cl [] env.qual none .none (some env)) (fun cenv s₄ =>
      codeAny (model W.prog W.w) A (.compStart (.ListComp elt (⟨target, iter, ifs, 0⟩ :: rest) scope pos) 0 (.ref I) acc { cenv with scope := relabel scope env }) (RR acc cenv.locals) s₄) E s₃) E s := by
  have hD : G.get? s.heap.objs.size = none := Heap.get?_none_of_le hGs
  refine wpAny_newObj_type (T := "list") ?_ (by show (#[] : Array Value).size ≤ sizeLine; exact Nat.zero_le _)
  obtain ⟨o, ho⟩ : ∃ o : Obj, o = { cls := .type "list", data := .seq #[] 0 } := ⟨_, rfl⟩
  refine newEnv_comp (s := { s with heap := s.heap.push _ }) fun h₁ hns l₁ okc => ?_
  rw [Heap.size_push] at hns okc ⊢
  have lp := Le.push s.heap { cls := .type "list", data := .seq #[] 0 }
  have l₂ : Le s.heap h₁ := lp.trans l₁
  have lG2 : Le G h₁ := lG.trans l₂
  have pl : h₁.PlainList s.heap.objs.size #[] := ⟨0, l₁ _ _ (Heap.get?_push_size _ rfl)⟩
  have hC : G.get? (s.heap.objs.size + 1) = none := Heap.get?_none_of_le (by omega)
  have hown : ∀ c ∈ ownCells scope (s.heap.objs.size + 1), G.get? c = none ∧ s.heap.objs.size + 2 ≤ c ∧ h₁.IsCell c none := fun c hc => by
    obtain ⟨p, hp, rfl⟩ := List.mem_map.mp hc
    obtain ⟨q1, q2⟩ := okc.empty p.1 p.2 hp
    exact ⟨Heap.get?_none_of_le (by omega), q2, q1⟩
  have V : Cv (compEnvD scope cl (s.heap.objs.size + 1) env) s.heap.objs.size (ownCells scope (s.heap.objs.size + 1)) ρ₀ h₁ := by
    have look : ∀ x c, (compEnvD scope cl (s.heap.objs.size + 1) env).cells.lookup x = some c → (x, c) ∈ cellsFrom (s.heap.objs.size + 1 + 1) scope.names [] ∨ (x, c) ∈ cl := fun x c e => by
      have e' : (cellsFrom (s.heap.objs.size + 1 + 1) scope.names cl).lookup x = some c := e
      rw [cellsFrom_acc] at e'
      exact List.mem_append.mp (mem_of_lookup e')
    refine ⟨hkind, vG.globs, vG.bltn, ⟨_, hns⟩, fun c hc => ⟨_, (hown c hc).2.2⟩, fun x c e => ?_, fun x y c hc e e' => ?_, ⟨_, pl⟩, fun p hp => ?_⟩
    · rcases look x c e with h | h
      · exact ⟨_, (okc.empty x c h).1⟩
      · obtain ⟨v, ci⟩ := vG.celled _ _ (hcl.mem _ h)
        exact ⟨v, ci.keeps lG2⟩
    · have key : ∀ z, (compEnvD scope cl (s.heap.objs.size + 1) env).cells.lookup z = some c → (z, c) ∈ cellsFrom (s.heap.objs.size + 1 + 1) scope.names [] := fun z e => by
        rcases look z c e with h | h
        · exact h
        · obtain ⟨v, o, e1, _⟩ := vG.celled _ _ (hcl.mem _ h)
          rw [(hown c hc).1] at e1; cases e1
      exact name_of_addr okc.apart (key x e) (key y e')
    · obtain ⟨hin, cp⟩ := hcap p hp
      obtain ⟨v, ⟨a1, a2, a3⟩, as, r, w⟩ := vG.vars p hin
      have hc : ∃ c, env.cells.lookup p.1 = some c ∧ G.IsCell c (some v) := by
        rcases a3 with ⟨b1, _⟩ | ⟨_, c, b2, b3⟩
        · rcases cp.out with h | h <;> rw [b1] at h <;> cases h
        · exact ⟨c, b2, b3⟩
      obtain ⟨c, b2, b3⟩ := hc
      refine ⟨v, ⟨a1, a2, .inr ⟨cp.here _, c, by rw [cp.same]; exact b2, b3.keeps lG2⟩⟩, as, Reads.keeps lG2 r, fun a ha => ⟨(w a ha).up lG2, fun hm => ?_⟩⟩
      obtain ⟨o, xs, n, e, _⟩ := w a ha
      rw [List.mem_singleton.mp hm, hD] at e; cases e
  have t1 : T 0 h₁ := Wk.frame _ _ _ t0 fun b hb o e => l₂ _ _ e
  have main : codeAny (model W.prog W.w) A (.compLoop (.ListComp elt (⟨target, iter, ifs, 0⟩ :: rest) scope pos) 0 (.ref I) (.ref s.heap.objs.size) (compEnvD scope cl (s.heap.objs.size + 1) env)) (RR (.ref s.heap.objs.size) (s.heap.objs.size + 1)) { s with heap := h₁ } := by
    have okg := okG
    refine comp_core (s := { s with heap := h₁ }) Wk hn hP hT (fun b hb => ?_) hGI hD hC (fun c hc => (hown c hc).1) okG (ct _ _) out [] (by simpa using hsz) (turn _ _ hGs (Nat.lt_succ_self _)) V t1 lG2 pl .nil fun h' tk ys f l' p' r' V' => ?_
    · have hb' := hfp b hb
      refine ⟨?_, fun hc => ?_, Nat.ne_of_lt hb'⟩
      · exact Nat.ne_of_lt (Nat.lt_succ_of_lt hb')
      · exact Nat.lt_irrefl _ (Nat.lt_of_lt_of_le hb' (Nat.le_trans (Nat.le_add_right _ 2) (hown b hc).2.1))
    · obtain ⟨m, hm⟩ := V'.ns
      exact k _ _ h' tk ys m (Nat.ne_of_lt (Nat.lt_succ_self _)) hD hC l' hm p' (by simpa using r')
  refine codeAny_compStart_list ?_ ?_
  · exact main
  · exact Wk.self 0 { s with heap := h₁ } _ _ t1 main
end
section
variable {W : Wd} {A : Around} {fe : Env} {lev : Nat} {cenv : Env} {D : Addr} {oc : List Addr} {ρ ρ' : List (Str × PyData)}

theorem Cv.append {s : Shared} {ys : Array Value} {outs : List PyData} {v : Value} {d : PyData} {Q : Value → Shared → Prop} {E : Value → Shared → Prop} (V : Cv cenv D oc ρ s.heap) (p : s.heap.PlainList D ys) (r : ReadsAll s.heap ys.toList outs [])
    (rv : Rd s.heap v d) (hi : imm d = true) (hsz : outs.length + 1 ≤ sizeLine)
    (k : ∀ h' ys', Fc cenv D oc s.heap h' → h'.PlainList D ys' → ReadsAll h' ys'.toList (outs ++ [d]) [] → Cv cenv D oc ρ h' → Q .none { s with heap := h' }) :
    wpAny (model W.prog W.w) A (call (.builtin "list.append") [.ref D, v]) Q E s := by
  have hlen : ys.size = outs.length := by
    have : RdAll s.heap ys.toList outs := ⟨_, r, fun _ h => nomatch h⟩
    simpa using this.length
  refine wpAny_list_append_plain p (fun h₂ hp hs => ?_) (by omega)
  have f : Fc cenv D oc s.heap h₂ := fun b o e _ _ h3 => hs.extBut b o h3 e
  obtain ⟨n0, e0⟩ := p
  have V2 : Cv cenv D oc ρ h₂ := V.but (.inr rfl) (fun m ⟨o, es, ep, e, d, _⟩ => by rw [e0] at e; cases e; cases d) (fun v ⟨o, e, d⟩ => by rw [e0] at e; cases e; cases d) (fun b o hb e => hs.extBut b o hb e) ⟨_, hp⟩
  refine k h₂ _ f hp ?_ V2
  obtain ⟨as, rr, w⟩ := rv
  have := imm_as rr hi
  subst this
  rw [Array.toList_push]
  exact V.keepAll f (readsAll_nil_append r rr)

theorem bd_emit0 {G : Heap} {elt : Expr} {d : PyData} (he : Ev W A fe lev cenv ρ' elt d) (hi : imm d = true) (hsub : ∀ p ∈ ρ, p ∈ ρ') : Bd W A fe lev cenv D oc G ρ' ρ (emit1 [] elt (.ref D) cenv) [d] := by
  intro s ys outs Q E ok _ V p r hsz k
  unfold emit1
  refine wpAny_bind (wpAny_tests_nil ?_)
  rw [if_pos rfl]
  refine wpAny_bind (he s _ E ok V.toVars fun v h₁ tk l rd => ?_)
  refine wpAny_bind ((V.up l).append (s := { s with heap := h₁, toks := tk }) (p.at fun o e => l _ o e) (ReadsAll.keeps l r) rd hi hsz fun h₂ ys' f p' r' V' => ?_)
  exact wpAny_pure (k h₂ tk ys' ((Fc.of l).trans f) p' r' (V'.sub hsub))
theorem bd_emit1 {G : Heap} {t elt : Expr} {b : Bool} {d : PyData} (ht : Ts W A fe lev cenv ρ' t b) (he : b = true → Ev W A fe lev cenv ρ' elt d) (hi : imm d = true) (hsub : ∀ p ∈ ρ, p ∈ ρ') :
    Bd W A fe lev cenv D oc G ρ' ρ (emit1 [t] elt (.ref D) cenv) (if b then [d] else []) := by
  intro s ys outs Q E ok _ V p r hsz k
  unfold emit1
  refine wpAny_bind (wpAny_tests_one (ht s _ E ok V.toVars fun h₀ tk₀ l₀ => ?_))
  have V0 := V.up l₀
  have p0 : h₀.PlainList D ys := p.at fun o e => l₀ _ o e
  cases b with
  | false =>
    rw [if_neg (by decide)] at hsz k ⊢
    exact wpAny_pure (k h₀ tk₀ ys (Fc.of l₀) p0 (by rw [List.append_nil]; exact ReadsAll.keeps l₀ r) (V0.sub hsub))
  | true =>
    rw [if_pos rfl] at hsz k ⊢
    refine wpAny_bind (he rfl _ _ E (ok.up l₀) V0.toVars fun v h₁ tk l rd => ?_)
    have l' : Le s.heap h₁ := l₀.trans l
    refine wpAny_bind ((V.up l').append (s := { s with heap := h₁, toks := tk }) (p.at fun o e => l' _ o e) (ReadsAll.keeps l' r) rd hi hsz fun h₂ ys' f p' r' V' => ?_)
    exact wpAny_pure (k h₂ tk ys' ((Fc.of l').trans f) p' r' (V'.sub hsub))
end

section
variable {W : Wd} {A : Around} {fe : Env} {lev : Nat} {env : Env} {ρ : List (Str × PyData)}
noncomputable def Itb (W : Wd) (A : Around) (fe : Env) (lev : Nat) (env : Env) (ρ : List (Str × PyData)) (iter : Expr) (ds : List PyData) : Prop :=
  ∀ (s : Shared) (Q : Value → Shared → Prop) (E : Value → Shared → Prop), OK W A fe lev s.heap → Vars env ρ s.heap →
    (∀ (I : Addr) (fp : List Addr) (P : Nat → Value → Prop) (T : Nat → Heap → Prop) (G h₁ : Heap) (tk : Nat), Walks W.prog W.w A I fp [I] ds.length P T → (∀ i v, P i v → ∃ d, ds[i]? = some d ∧ Reads G v d []) → (∀ i h, T i h → ItSafe h I) →
      Le s.heap G → Le G h₁ → G.objs.size ≤ h₁.objs.size → G.get? I = none → (∀ b ∈ fp, b < h₁.objs.size ∧ (b = I ∨ SeqAt h₁ b)) → T 0 h₁ → Q (.ref I) { s with heap := h₁, toks := tk }) →
    wpAny (model W.prog W.w) A (eval iter env) (fun x s₁ => wpAny (model W.prog W.w) A (pyIter x) Q E s₁) E s

theorem rd_imm {h : Heap} {v : Value} {d : PyData} (r : Rd h v d) (hi : imm d = true) : Reads h v d [] := by
  obtain ⟨as, rr, w⟩ := r
  have := imm_as rr hi
  subst this
  exact rr
theorem itb_list {iter : Expr} {ds : List PyData} (he : Ev W A fe lev env ρ iter (.list ds)) (hi : ∀ d ∈ ds, imm d = true) : Itb W A fe lev env ρ iter ds := by
  intro s Q E ok hv k
  refine he s _ E ok hv fun v h₁ tk l r => ?_
  obtain ⟨a, vs, rfl, hl, hr⟩ := r.list
  have hsz : vs.size = ds.length := by have := hr.length; simpa using this
  refine wpAny_pyIter_list (s := { s with heap := h₁, toks := tk }) hl ?_
  have hal : a < h₁.objs.size := by obtain ⟨o, e, _⟩ := hl; exact Heap.lt_size e
  have lp := Le.push h₁ { cls := .type "list_iterator", data := .fields #[.ref a, .int 0 0] }
  have aseq : SeqAt h₁ a := by obtain ⟨o, e, _, k, q⟩ := hl; exact ⟨o, _, k, e, q⟩
  refine k _ _ _ _ h₁ _ tk (hsz ▸ Walks.list ok.hand h₁.objs.size a (Nat.ne_of_lt hal) vs) (fun i v e => ?_) (fun i h t => ?_) l lp ?_ ?_ (fun b hb => ?_) ⟨⟨_, Heap.get?_push_size _ rfl, rfl, rfl⟩, hl.push _⟩
  · obtain ⟨d, e', r'⟩ := hr.get' (j := i) (v := v) (by simpa using e)
    exact ⟨d, e', rd_imm r' (hi d (List.mem_of_getElem? e'))⟩
  · obtain ⟨o, e, c, d⟩ := t.1
    exact ⟨o, _, _, e, c, d, by decide⟩
  · rw [Heap.size_push]; exact Nat.le_succ _
  · exact Heap.get?_none_of_le (Nat.le_refl _)
  · rw [Heap.size_push]
    rcases List.mem_cons.mp hb with rfl | hb
    · exact ⟨Nat.lt_succ_self _, .inl rfl⟩
    · obtain rfl := List.mem_singleton.mp hb
      exact ⟨Nat.lt_succ_of_lt hal, .inr (aseq.up lp)⟩
theorem itb_tuple {iter : Expr} {ds : List PyData} (he : Ev W A fe lev env ρ iter (.tuple ds)) (hi : ∀ d ∈ ds, imm d = true) : Itb W A fe lev env ρ iter ds := by
  intro s Q E ok hv k
  refine he s _ E ok hv fun v h₁ tk l r => ?_
  obtain ⟨a, vs, rfl, hl, hr⟩ := r.tuple
  have hsz : vs.size = ds.length := by have := hr.length; simpa using this
  refine wpAny_pyIter_tuple (s := { s with heap := h₁, toks := tk }) hl ?_
  have hal : a < h₁.objs.size := by obtain ⟨o, e, _⟩ := hl; exact Heap.lt_size e
  have lp := Le.push h₁ { cls := .type "tuple_iterator", data := .fields #[.ref a, .int 0 0] }
  have aseq : SeqAt h₁ a := by obtain ⟨o, e, _, k, q⟩ := hl; exact ⟨o, _, k, e, q⟩
  refine k _ _ _ _ h₁ _ tk (hsz ▸ Walks.tuple ok.hand h₁.objs.size a (Nat.ne_of_lt hal) vs) (fun i v e => ?_) (fun i h t => ?_) l lp ?_ ?_ (fun b hb => ?_) ⟨⟨_, Heap.get?_push_size _ rfl, rfl, rfl⟩, Heap.IsTuple.push hl _⟩
  · obtain ⟨d, e', r'⟩ := hr.get' (j := i) (v := v) (by simpa using e)
    exact ⟨d, e', rd_imm r' (hi d (List.mem_of_getElem? e'))⟩
  · obtain ⟨o, e, c, d⟩ := t.1
    exact ⟨o, _, _, e, c, d, by decide⟩
  · rw [Heap.size_push]; exact Nat.le_succ _
  · exact Heap.get?_none_of_le (Nat.le_refl _)
  · rw [Heap.size_push]
    rcases List.mem_cons.mp hb with rfl | hb
    · exact ⟨Nat.lt_succ_self _, .inl rfl⟩
    · obtain rfl := List.mem_singleton.mp hb
      exact ⟨Nat.lt_succ_of_lt hal, .inr (aseq.up lp)⟩

variable {ρ₀ : List (Str × PyData)}
structure Blk (env : Env) (ρ ρ₀ : List (Str × PyData)) (scope : Scope) (cl : List (Str × Addr)) (iter : Expr) : Prop where
  clos : closureFor scope env = pure cl
  ok : ClOk env cl
  cap : ∀ p ∈ ρ₀, p ∈ ρ ∧ Cap env scope cl p.1
  kind : scope.kind = .function
  names : ∀ x ∈ scope.names, x.2 = .local → scope.names.lookup x.1 = some .local
  fold : ∀ x, foldedSetIterable iter env x = pure x

theorem ev_comp {elt target iter : Expr} {ifs : List Expr} {scope : Scope} {pos : Pos} {cl : List (Str × Addr)} {ds : List PyData} (it : Itb W A fe lev env ρ iter ds) (B : Blk env ρ ρ₀ scope cl iter) (out : PyData → List PyData) (hsz : (ds.flatMap out).length ≤ sizeLine)
    (turn : A.handled = none → ∀ C D G, ∀ d ∈ ds, ∃ ρ', Tc W A (compEnvD scope cl C env) D (ownCells scope C) target d ρ₀ ρ' ∧ Bd W A fe lev (compEnvD scope cl C env) D (ownCells scope C) G ρ' ρ₀ (emit1 ifs elt (.ref D) (compEnvD scope cl C env)) (out d)) :
    Ev W A fe lev env ρ (.ListComp elt [⟨target, iter, ifs, 0⟩] scope pos) (.list (ds.flatMap out)) := by
  intro s Q E ok hv k
  rw [eval_ListComp]
  refine wpAny_comprehension_free (use := none) rfl B.fold B.clos B.kind B.names ?_
  refine it s _ E ok hv fun I fp P T G h₁ tk Wk hP hT l1 l2 hs hGI hfp t0 => ?_
  refine comp_block (s := { s with heap := h₁, toks := tk }) (RR := fun acc C => compPost (model W.prog W.w) A E none Q acc C) Wk rfl hP hT (ok.up l1) (hv.up l1) B.ok B.cap l2 hs hGI (fun b hb => (hfp b hb).1) t0 out hsz B.kind (fun D C => cturn1) (fun C D _ _ d hd => turn ok.hand C D G d hd) ?_
  intro D C h' tk' ys m hDC hGD hGC lG nC pl r
  refine ⟨m, nC, fun h'' hs'' => ?_⟩
  have up : ∀ b o, b ≠ C → h'.get? b = some o → h''.get? b = some o := fun b o hb e => hs''.extBut b o hb e
  have pl2 : h''.PlainList D ys := pl.at fun o e => up D o hDC e
  refine k _ h'' tk' (fun b o e => up b o (fun q => by rw [q] at e; rw [l1 _ _ e] at hGC; cases hGC) (lG _ _ (l1 _ _ e))) (Rd.ofList pl2.isList ⟨_, readsAll_but r (fun _ h => h) (fun _ h => nomatch h) fun b o xs n e q _ => up b o (fun e' => ns_not_seq nC ⟨o, xs, n, e' ▸ e, q⟩) e, fun _ h => nomatch h⟩)
end
section
variable {W : Wd} {A : Around} {fe : Env} {lev : Nat} {g : Heap} {M : List Addr} {ρ : Rho} {ρ₀ : List (Str × PyData)} {Rt : Rho → PyData → Prop}
theorem ex1_comp {y : Str} {py spos : Pos} {elt target iter : Expr} {ifs : List Expr} {scope : Scope} {pos : Pos} {cl : List (Str × Addr)} {ds : List PyData} (it : Itb W A fe lev fe (vals ρ) iter ds) (B : Blk fe (vals ρ) ρ₀ scope cl iter) (out : PyData → List PyData) (hsz : (ds.flatMap out).length ≤ sizeLine)
    (turn : A.handled = none → ∀ C D G, ∀ d ∈ ds, ∃ ρ', Tc W A (compEnvD scope cl C fe) D (ownCells scope C) target d ρ₀ ρ' ∧ Bd W A fe lev (compEnvD scope cl C fe) D (ownCells scope C) G ρ' ρ₀ (emit1 ifs elt (.ref D) (compEnvD scope cl C fe)) (out d))
    (n : Nm fe ρ y) (hsw : swapsWith (.ListComp elt [⟨target, iter, ifs, 0⟩] scope pos) (some (.Name y py)) spos.line fe = pure true) :
    Ex1 W A fe lev g M ρ (.Assign [.Name y py] (.ListComp elt [⟨target, iter, ifs, 0⟩] scope pos) spos) (· = (y, .val (.list (ds.flatMap out))) :: ρ) Rt := by
  intro s Q E S k _
  rw [exec_Assign_Name_used _ _ _ _ hsw]
  refine wpAny_bind (wpAny_standAt (wpAny_bind ?_))
  show wpAny _ A (do let _ ← comprehension (.ListComp elt [⟨target, iter, ifs, 0⟩] scope pos) scope fe _ (newList []) false (eval iter fe) (some (assign (.Name y py) fe))) _ _ s
  refine wpAny_bind (wpAny_mono (wpAny_comprehension_free (use := some (assign (.Name y py) fe)) (Q := fun _ s' => Q .next s') rfl B.fold B.clos B.kind B.names ?_) (fun _ s' hq => wpAny_pure (wpAny_pure hq)) fun _ _ e => e)
  refine it s _ E S.ok S.vars fun I fp P T G h₁ tk Wk hP hT l1 l2 hs hGI hfp t0 => ?_
  refine comp_block (s := { s with heap := h₁, toks := tk }) (RR := fun acc C => compPost (model W.prog W.w) A E (some (assign (.Name y py) fe)) (fun _ s' => Q .next s') acc C) Wk rfl hP hT (S.ok.up l1) (S.vars.up l1) B.ok B.cap l2 hs hGI (fun b hb => (hfp b hb).1) t0 out hsz B.kind (fun D C => cturn1) (fun C D _ _ d hd => turn S.hand C D G d hd) ?_
  intro D C h' tk' ys m hDC hGD hGC lG nC pl r
  show wpAny _ A (assign (.Name y py) fe (.ref D)) _ _ _
  have lS : Le s.heap h' := l1.trans lG
  have S1 := S.up lS
  have gone : ∀ b, s.heap.get? b = none → ∀ a ∈ M, a ≠ b := fun b hb a ha e => by
    obtain ⟨_, _, o, e', _⟩ := S.mov a ha
    rw [e, hb] at e'; cases e'
  have none_of : ∀ b, G.get? b = none → s.heap.get? b = none := fun b hb => by
    cases q : s.heap.get? b with
    | none => rfl
    | some o => rw [l1 _ _ q] at hb; cases hb
  have sC := none_of C hGC
  have sD := none_of D hGD
  obtain ⟨mf, F⟩ := S.fr
  have CL : C ≠ fe.locals := fun e => by
    obtain ⟨o, _, _, e', _⟩ := F.ns
    rw [← e, sC] at e'; cases e'
  have Cc : ∀ x, fe.cells.lookup x ≠ some C := fun x e => by
    obtain ⟨_, _, v, o, e', _⟩ := S.cells x C e
    rw [sC] at e'; cases e'
  have CM : C ∉ M := fun hm => gone C sC C hm rfl
  have DM : D ∉ M := fun hm => gone D sD D hm rfl
  have ro : RdOff M h' (.ref D) (.list (ds.flatMap out)) := by
    obtain ⟨n0, e0⟩ := pl
    refine ⟨_, .list e0 rfl rfl r, fun a ha => ?_⟩
    obtain rfl := List.mem_singleton.mp ha
    exact ⟨⟨_, _, _, e0, rfl⟩, DM⟩
  refine wpAny_assign_Name (S1.store (s := { s with heap := h', toks := tk' }) (e := .val _) n.kind ro n.new n.h1 n.h2 fun h₂ tk₂ f S2 => ?_)
  have n2 : h₂.Ns C m := nC.at' fun o e => f C o e CL Cc CM
  refine ⟨m, n2, fun h₃ hs₃ => ?_⟩
  have up : ∀ b o, b ≠ C → h₂.get? b = some o → h₃.get? b = some o := fun b o hb e => hs₃.extBut b o hb e
  have gC : g.get? C = none := by
    cases q : g.get? C with
    | none => rfl
    | some o => rw [S.le _ _ q] at sC; cases sC
  refine k _ h₃ tk₂ rfl (fun b o e a1 a2 a3 => up b o (fun q => by rw [q, sC] at e; cases e) (f b o (lS _ _ e) a1 a2 a3)) (S2.but (ns_not_seq n2) CM CL Cc gC up)
end
noncomputable def recIs (i : Nat) (r : DefRec) (_ : recs0[i]? = some r) : DefRec := r
theorem faC {P : Str → Prop} {x : Str} {xs : List Str} (h : P x) (t : ∀ y ∈ xs, P y) : ∀ y ∈ x :: xs, P y := List.forall_mem_cons.mpr ⟨h, t⟩
theorem recIs_mem {i : Nat} {r : DefRec} {h : recs0[i]? = some r} : recIs i r h ∈ recs0 := List.mem_of_getElem? h
theorem bd1 {F : FuncData} {xs : List Str} (H : ∀ a0 : Value, bindArgs F ⟨[a0], []⟩ = pure (xs.zip [a0])) (vs : List Value) (h : vs.length = 1) : bindArgs F ⟨vs, []⟩ = pure (xs.zip vs) := by
  match vs, h with
  | [a0], _ => exact H a0
theorem bd2 {F : FuncData} {xs : List Str} (H : ∀ a0 a1 : Value, bindArgs F ⟨[a0, a1], []⟩ = pure (xs.zip [a0, a1])) (vs : List Value) (h : vs.length = 2) : bindArgs F ⟨vs, []⟩ = pure (xs.zip vs) := by
  match vs, h with
  | [a0, a1], _ => exact H a0 a1
theorem bd3 {F : FuncData} {xs : List Str} (H : ∀ a0 a1 a2 : Value, bindArgs F ⟨[a0, a1, a2], []⟩ = pure (xs.zip [a0, a1, a2])) (vs : List Value) (h : vs.length = 3) : bindArgs F ⟨vs, []⟩ = pure (xs.zip vs) := by
  match vs, h with
  | [a0, a1, a2], _ => exact H a0 a1 a2
theorem bd4 {F : FuncData} {xs : List Str} (H : ∀ a0 a1 a2 a3 : Value, bindArgs F ⟨[a0, a1, a2, a3], []⟩ = pure (xs.zip [a0, a1, a2, a3])) (vs : List Value) (h : vs.length = 4) : bindArgs F ⟨vs, []⟩ = pure (xs.zip vs) := by
  match vs, h with
  | [a0, a1, a2, a3], _ => exact H a0 a1 a2 a3
noncomputable def r_put_behind : DefRec := recIs 0 ⟨_, _, _, _, _⟩ rfl
theorem def_put_behind : Def r_put_behind ["found", "low", "high"] where
  mem := recIs_mem
  bind := fun v _ _ _ h => bd3 (fun _ _ _ => rfl) v h
  kind := fun k => by
    refine faC ?_ (faC ?_ (faC ?_ (fun _ h => nomatch h))) <;> first | exact .inl rfl | exact .inr ⟨rfl, rfl⟩
  nodup := by decide
  good := by decide
  co := rfl
  gen := rfl
  fn := rfl
noncomputable def r_from_values : DefRec := recIs 1 ⟨_, _, _, _, _⟩ rfl
theorem def_from_values : Def r_from_values ["numbers"] where
  mem := recIs_mem
  bind := fun v _ _ _ h => bd1 (fun _ => rfl) v h
  kind := fun k => by
    refine faC ?_ (fun _ h => nomatch h) <;> first | exact .inl rfl | exact .inr ⟨rfl, rfl⟩
  nodup := by decide
  good := by decide
  co := rfl
  gen := rfl
  fn := rfl
noncomputable def r_least : DefRec := recIs 2 ⟨_, _, _, _, _⟩ rfl
theorem def_least : Def r_least ["d"] where
  mem := recIs_mem
  bind := fun v _ _ _ h => bd1 (fun _ => rfl) v h
  kind := fun k => by
    refine faC ?_ (fun _ h => nomatch h) <;> first | exact .inl rfl | exact .inr ⟨rfl, rfl⟩
  nodup := by decide
  good := by decide
  co := rfl
  gen := rfl
  fn := rfl
noncomputable def r_greatest : DefRec := recIs 3 ⟨_, _, _, _, _⟩ rfl
theorem def_greatest : Def r_greatest ["d"] where
  mem := recIs_mem
  bind := fun v _ _ _ h => bd1 (fun _ => rfl) v h
  kind := fun k => by
    refine faC ?_ (fun _ h => nomatch h) <;> first | exact .inl rfl | exact .inr ⟨rfl, rfl⟩
  nodup := by decide
  good := by decide
  co := rfl
  gen := rfl
  fn := rfl
noncomputable def r_next_from : DefRec := recIs 4 ⟨_, _, _, _, _⟩ rfl
theorem def_next_from : Def r_next_from ["d", "v"] where
  mem := recIs_mem
  bind := fun v _ _ _ h => bd2 (fun _ _ => rfl) v h
  kind := fun k => by
    refine faC ?_ (faC ?_ (fun _ h => nomatch h)) <;> first | exact .inl rfl | exact .inr ⟨rfl, rfl⟩
  nodup := by decide
  good := by decide
  co := rfl
  gen := rfl
  fn := rfl
noncomputable def r_has : DefRec := recIs 5 ⟨_, _, _, _, _⟩ rfl
theorem def_has : Def r_has ["d", "v"] where
  mem := recIs_mem
  bind := fun v _ _ _ h => bd2 (fun _ _ => rfl) v h
  kind := fun k => by
    refine faC ?_ (faC ?_ (fun _ h => nomatch h)) <;> first | exact .inl rfl | exact .inr ⟨rfl, rfl⟩
  nodup := by decide
  good := by decide
  co := rfl
  gen := rfl
  fn := rfl
noncomputable def r_up_to : DefRec := recIs 6 ⟨_, _, _, _, _⟩ rfl
theorem def_up_to : Def r_up_to ["d", "k"] where
  mem := recIs_mem
  bind := fun v _ _ _ h => bd2 (fun _ _ => rfl) v h
  kind := fun k => by
    refine faC ?_ (faC ?_ (fun _ h => nomatch h)) <;> first | exact .inl rfl | exact .inr ⟨rfl, rfl⟩
  nodup := by decide
  good := by decide
  co := rfl
  gen := rfl
  fn := rfl
noncomputable def r_from_on : DefRec := recIs 7 ⟨_, _, _, _, _⟩ rfl
theorem def_from_on : Def r_from_on ["d", "k"] where
  mem := recIs_mem
  bind := fun v _ _ _ h => bd2 (fun _ _ => rfl) v h
  kind := fun k => by
    refine faC ?_ (faC ?_ (fun _ h => nomatch h)) <;> first | exact .inl rfl | exact .inr ⟨rfl, rfl⟩
  nodup := by decide
  good := by decide
  co := rfl
  gen := rfl
  fn := rfl
noncomputable def r_without : DefRec := recIs 8 ⟨_, _, _, _, _⟩ rfl
theorem def_without : Def r_without ["d", "v"] where
  mem := recIs_mem
  bind := fun v _ _ _ h => bd2 (fun _ _ => rfl) v h
  kind := fun k => by
    refine faC ?_ (faC ?_ (fun _ h => nomatch h)) <;> first | exact .inl rfl | exact .inr ⟨rfl, rfl⟩
  nodup := by decide
  good := by decide
  co := rfl
  gen := rfl
  fn := rfl
noncomputable def r_meet : DefRec := recIs 9 ⟨_, _, _, _, _⟩ rfl
theorem def_meet : Def r_meet ["d", "e"] where
  mem := recIs_mem
  bind := fun v _ _ _ h => bd2 (fun _ _ => rfl) v h
  kind := fun k => by
    refine faC ?_ (faC ?_ (fun _ h => nomatch h)) <;> first | exact .inl rfl | exact .inr ⟨rfl, rfl⟩
  nodup := by decide
  good := by decide
  co := rfl
  gen := rfl
  fn := rfl
noncomputable def r_negation : DefRec := recIs 10 ⟨_, _, _, _, _⟩ rfl
theorem def_negation : Def r_negation ["literal"] where
  mem := recIs_mem
  bind := fun v _ _ _ h => bd1 (fun _ => rfl) v h
  kind := fun k => by
    refine faC ?_ (fun _ h => nomatch h) <;> first | exact .inl rfl | exact .inr ⟨rfl, rfl⟩
  nodup := by decide
  good := by decide
  co := rfl
  gen := rfl
  fn := rfl
noncomputable def r_struck : DefRec := recIs 11 ⟨_, _, _, _, _⟩ rfl
theorem def_struck : Def r_struck ["literal", "d"] where
  mem := recIs_mem
  bind := fun v _ _ _ h => bd2 (fun _ _ => rfl) v h
  kind := fun k => by
    refine faC ?_ (faC ?_ (fun _ h => nomatch h)) <;> first | exact .inl rfl | exact .inr ⟨rfl, rfl⟩
  nodup := by decide
  good := by decide
  co := rfl
  gen := rfl
  fn := rfl
noncomputable def r_said_of : DefRec := recIs 12 ⟨_, _, _, _, _⟩ rfl
theorem def_said_of : Def r_said_of ["literal", "d"] where
  mem := recIs_mem
  bind := fun v _ _ _ h => bd2 (fun _ _ => rfl) v h
  kind := fun k => by
    refine faC ?_ (faC ?_ (fun _ h => nomatch h)) <;> first | exact .inl rfl | exact .inr ⟨rfl, rfl⟩
  nodup := by decide
  good := by decide
  co := rfl
  gen := rfl
  fn := rfl
noncomputable def r_is_met : DefRec := recIs 13 ⟨_, _, _, _, _⟩ rfl
theorem def_is_met : Def r_is_met ["literal", "v"] where
  mem := recIs_mem
  bind := fun v _ _ _ h => bd2 (fun _ _ => rfl) v h
  kind := fun k => by
    refine faC ?_ (faC ?_ (fun _ h => nomatch h)) <;> first | exact .inl rfl | exact .inr ⟨rfl, rfl⟩
  nodup := by decide
  good := by decide
  co := rfl
  gen := rfl
  fn := rfl
noncomputable def r_implies : DefRec := recIs 14 ⟨_, _, _, _, _⟩ rfl
theorem def_implies : Def r_implies ["one", "other"] where
  mem := recIs_mem
  bind := fun v _ _ _ h => bd2 (fun _ _ => rfl) v h
  kind := fun k => by
    refine faC ?_ (faC ?_ (fun _ h => nomatch h)) <;> first | exact .inl rfl | exact .inr ⟨rfl, rfl⟩
  nodup := by decide
  good := by decide
  co := rfl
  gen := rfl
  fn := rfl
noncomputable def r_elders : DefRec := recIs 15 ⟨_, _, _, _, _⟩ rfl
theorem def_elders : Def r_elders ["literal", "before", "wanted"] where
  mem := recIs_mem
  bind := fun v _ _ _ h => bd3 (fun _ _ _ => rfl) v h
  kind := fun k => by
    refine faC ?_ (faC ?_ (faC ?_ (fun _ h => nomatch h))) <;> first | exact .inl rfl | exact .inr ⟨rfl, rfl⟩
  nodup := by decide
  good := by decide
  co := rfl
  gen := rfl
  fn := rfl
noncomputable def r_law_draw : DefRec := recIs 16 ⟨_, _, _, _, _⟩ rfl
theorem def_law_draw : Def r_law_draw ["src", "many"] where
  mem := recIs_mem
  bind := fun v _ _ _ h => bd2 (fun _ _ => rfl) v h
  kind := fun k => by
    refine faC ?_ (faC ?_ (fun _ h => nomatch h)) <;> first | exact .inl rfl | exact .inr ⟨rfl, rfl⟩
  nodup := by decide
  good := by decide
  co := rfl
  gen := rfl
  fn := rfl
noncomputable def r_law_src : DefRec := recIs 17 ⟨_, _, _, _, _⟩ rfl
theorem def_law_src : Def r_law_src ["script"] where
  mem := recIs_mem
  bind := fun v _ _ _ h => bd1 (fun _ => rfl) v h
  kind := fun k => by
    refine faC ?_ (fun _ h => nomatch h) <;> first | exact .inl rfl | exact .inr ⟨rfl, rfl⟩
  nodup := by decide
  good := by decide
  co := rfl
  gen := rfl
  fn := rfl
noncomputable def r_law_met : DefRec := recIs 18 ⟨_, _, _, _, _⟩ rfl
theorem def_law_met : Def r_law_met ["literal", "v"] where
  mem := recIs_mem
  bind := fun v _ _ _ h => bd2 (fun _ _ => rfl) v h
  kind := fun k => by
    refine faC ?_ (faC ?_ (fun _ h => nomatch h)) <;> first | exact .inl rfl | exact .inr ⟨rfl, rfl⟩
  nodup := by decide
  good := by decide
  co := rfl
  gen := rfl
  fn := rfl
noncomputable def r_law_kept : DefRec := recIs 19 ⟨_, _, _, _, _⟩ rfl
theorem def_law_kept : Def r_law_kept ["literals", "numbers"] where
  mem := recIs_mem
  bind := fun v _ _ _ h => bd2 (fun _ _ => rfl) v h
  kind := fun k => by
    refine faC ?_ (faC ?_ (fun _ h => nomatch h)) <;> first | exact .inl rfl | exact .inr ⟨rfl, rfl⟩
  nodup := by decide
  good := by decide
  co := rfl
  gen := rfl
  fn := rfl
noncomputable def r_law_is_within : DefRec := recIs 20 ⟨_, _, _, _, _⟩ rfl
theorem def_law_is_within : Def r_law_is_within ["some", "others"] where
  mem := recIs_mem
  bind := fun v _ _ _ h => bd2 (fun _ _ => rfl) v h
  kind := fun k => by
    refine faC ?_ (faC ?_ (fun _ h => nomatch h)) <;> first | exact .inl rfl | exact .inr ⟨rfl, rfl⟩
  nodup := by decide
  good := by decide
  co := rfl
  gen := rfl
  fn := rfl
noncomputable def r_law_literals : DefRec := recIs 21 ⟨_, _, _, _, _⟩ rfl
theorem def_law_literals : Def r_law_literals ["x"] where
  mem := recIs_mem
  bind := fun v _ _ _ h => bd1 (fun _ => rfl) v h
  kind := fun k => by
    refine faC ?_ (fun _ h => nomatch h) <;> first | exact .inl rfl | exact .inr ⟨rfl, rfl⟩
  nodup := by decide
  good := by decide
  co := rfl
  gen := rfl
  fn := rfl
noncomputable def r_law_lot : DefRec := recIs 22 ⟨_, _, _, _, _⟩ rfl
theorem def_law_lot : Def r_law_lot ["src"] where
  mem := recIs_mem
  bind := fun v _ _ _ h => bd1 (fun _ => rfl) v h
  kind := fun k => by
    refine faC ?_ (fun _ h => nomatch h) <;> first | exact .inl rfl | exact .inr ⟨rfl, rfl⟩
  nodup := by decide
  good := by decide
  co := rfl
  gen := rfl
  fn := rfl
noncomputable def r_law_elders_right : DefRec := recIs 23 ⟨_, _, _, _, _⟩ rfl
theorem def_law_elders_right : Def r_law_elders_right ["literal", "lot", "wanted", "every"] where
  mem := recIs_mem
  bind := fun v _ _ _ h => bd4 (fun _ _ _ _ => rfl) v h
  kind := fun k => by
    refine faC ?_ (faC ?_ (faC ?_ (faC ?_ (fun _ h => nomatch h)))) <;> first | exact .inl rfl | exact .inr ⟨rfl, rfl⟩
  nodup := by decide
  good := by decide
  co := rfl
  gen := rfl
  fn := rfl
noncomputable def r_law : DefRec := recIs 24 ⟨_, _, _, _, _⟩ rfl
theorem def_law : Def r_law ["script"] where
  mem := recIs_mem
  bind := fun v _ _ _ h => bd1 (fun _ => rfl) v h
  kind := fun k => by
    refine faC ?_ (fun _ h => nomatch h) <;> first | exact .inl rfl | exact .inr ⟨rfl, rfl⟩
  nodup := by decide
  good := by decide
  co := rfl
  gen := rfl
  fn := rfl
inductive Sg where
  | le | ge | eq | ne
  deriving DecidableEq
noncomputable def Sg.str : Sg → Str
  | .le => "<="
  | .ge => ">="
  | .eq => "="
  | .ne => "!="
noncomputable def lit (x : Int) (s : Sg) (k : Int) : PyData := .tuple [.int x, .str s.str, .int k]
noncomputable def isMet (s : Sg) (k v : Int) : Bool := match s with
  | .le => decide (v ≤ k)
  | .ge => decide (v ≥ k)
  | .eq => v == k
  | .ne => v != k

section
variable {W : Wd} {A : Around} {fe : Env} {lev : Nat} {g : Heap} {M : List Addr} {ρ ρ' : Rho} {Nx : Rho → Prop} {Rt : Rho → PyData → Prop} {env : Env} {σ : List (Str × PyData)}
theorem ex1_ifT {test : Expr} {body orelse : List Stmt} {pos : Pos} {b : Bool} (t : Ts W A fe lev fe (vals ρ) test b) (hb : b = true) (x : Ex W A fe lev g M ρ body Nx Rt) :
    Ex1 W A fe lev g M ρ (.If test body orelse pos) Nx Rt := by
  subst hb
  exact ex1_if t (fun _ => x) fun h => nomatch h
theorem ex1_ifF {test : Expr} {body orelse : List Stmt} {pos : Pos} {b : Bool} (t : Ts W A fe lev fe (vals ρ) test b) (hb : b = false) (x : Ex W A fe lev g M ρ orelse Nx Rt) :
    Ex1 W A fe lev g M ρ (.If test body orelse pos) Nx Rt := by
  subst hb
  exact ex1_if t (fun h => nomatch h) fun _ => x
theorem ev_iteT {t x y : Expr} {b : Bool} {d : PyData} {pos : Pos} (ht : Ts W A fe lev env σ t b) (hb : b = true) (hx : Ev W A fe lev env σ x d) : Ev W A fe lev env σ (.IfExp t x y pos) d := by
  subst hb
  exact ev_ite ht (fun _ => hx) fun h => nomatch h
theorem ev_iteF {t x y : Expr} {b : Bool} {d : PyData} {pos : Pos} (ht : Ts W A fe lev env σ t b) (hb : b = false) (hy : Ev W A fe lev env σ y d) : Ev W A fe lev env σ (.IfExp t x y pos) d := by
  subst hb
  exact ev_ite ht (fun h => nomatch h) fun _ => hy
theorem co_eqI {a b : Int} : Co W A fe lev .Eq (.int a) (.int b) (a == b) := by
  have := co_eq (W := W) (A := A) (fe := fe) (lev := lev) (a := .int a) (b := .int b) (by simp only [PyData.canLay0]) (by simp only [PyData.canLay0]) (by simp only [PyData.depth]; decide)
  simpa only [PyData.eqv] using this
theorem co_neI {a b : Int} : Co W A fe lev .NotEq (.int a) (.int b) (a != b) := by
  have := co_ne (W := W) (A := A) (fe := fe) (lev := lev) (a := .int a) (b := .int b) (by simp only [PyData.canLay0]) (by simp only [PyData.canLay0]) (by simp only [PyData.depth]; decide)
  simpa only [PyData.eqv, bne] using this
theorem co_eqB {a b : Bool} : Co W A fe lev .Eq (.bool a) (.bool b) (a == b) := by
  have := co_eq (W := W) (A := A) (fe := fe) (lev := lev) (a := .bool a) (b := .bool b) (by simp only [PyData.canLay0]) (by simp only [PyData.canLay0]) (by simp only [PyData.depth]; decide)
  simpa only [PyData.eqv] using this
theorem co_eqS {a b : Str} (ha : PyData.strOk a = true) (hb : PyData.strOk b = true) : Co W A fe lev .Eq (.str a) (.str b) (a == b) := by
  have := co_eq (W := W) (A := A) (fe := fe) (lev := lev) (a := .str a) (b := .str b) (by simpa only [PyData.canLay0] using ha) (by simpa only [PyData.canLay0] using hb) (by simp only [PyData.depth]; decide)
  simpa only [PyData.eqv] using this
theorem co_inS {a : Str} {l : List PyData} (ha : PyData.strOk a = true) (hb : PyData.canLayAll0 l = true) {b : Bool} (h : (l.any fun y => PyData.eqv y (.str a)) = b) : Co W A fe lev .In (.str a) (.list l) b := by
  have := co_in (W := W) (A := A) (fe := fe) (lev := lev) (a := .str a) (l := l) (by simpa only [PyData.canLay0] using ha) hb (by simp only [PyData.depth]; decide)
  rwa [h] at this
theorem co_inTS {a : Str} {l : List PyData} (ha : PyData.strOk a = true) (hb : PyData.canLayAll0 l = true) {b : Bool} (h : (l.any fun y => PyData.eqv y (.str a)) = b) : Co W A fe lev .In (.str a) (.tuple l) b := by
  have := co_inT (W := W) (A := A) (fe := fe) (lev := lev) (a := .str a) (l := l) (by simpa only [PyData.canLay0] using ha) hb (by simp only [PyData.depth]; decide)
  rwa [h] at this
noncomputable def namesOf : List Expr → List Str
  | .Name x _ :: r => x :: namesOf r
  | _ => []
noncomputable def pushR : List Str → List PyData → Rho → Rho
  | x :: xs, d :: ds, ρ => (x, .val d) :: pushR xs ds ρ
  | _, _, ρ => ρ
theorem push_append : ∀ (a b : List (Str × PyData)) (ρ : Rho), push (a ++ b) ρ = push b (push a ρ)
  | [], _, _ => rfl
  | (_, _) :: r, b, ρ => push_append r b _
theorem pushR_eq : ∀ (ns : List Str) (ds : List PyData) (ρ : Rho), pushR ns ds ρ = push (ns.zip ds).reverse ρ
  | [], _, _ => by simp [pushR, push]
  | _ :: _, [], _ => by simp [pushR, push]
  | x :: xs, d :: ds, ρ => by
    rw [pushR, pushR_eq xs ds ρ, List.zip_cons_cons, List.reverse_cons, push_append]
    rfl
theorem ex_body {st : Stmt} {ss b : List Stmt} (x : Ex W A fe lev g M ρ (st :: ss) Nx Rt) (h : b = st :: ss) : Ex W A fe lev g M ρ b Nx Rt := h ▸ x
theorem ex_ifRet {test : Expr} {body orelse rest : List Stmt} {pos : Pos} {b : Bool} (t : Ts W A fe lev fe (vals ρ) test b) (hb : b = true) (x : Ex W A fe lev g M ρ body (fun _ => False) Rt) :
    Ex W A fe lev g M ρ (.If test body orelse pos :: rest) Nx Rt := ex_last (ex1_ifT t hb x)
theorem ex_ifSkip {test : Expr} {body rest : List Stmt} {pos : Pos} {b : Bool} (t : Ts W A fe lev fe (vals ρ) test b) (hb : b = false) (x : Ex W A fe lev g M ρ rest Nx Rt) :
    Ex W A fe lev g M ρ (.If test body [] pos :: rest) Nx Rt := ex_seq (ex1_ifF t hb (ex_nil rfl)) x
theorem ex_ifTail {test : Expr} {body orelse : List Stmt} {pos : Pos} {b : Bool} (t : Ts W A fe lev fe (vals ρ) test b) (x : b = true → Ex W A fe lev g M ρ body Nx Rt) (y : b = false → Ex W A fe lev g M ρ orelse Nx Rt) :
    Ex W A fe lev g M ρ [.If test body orelse pos] Nx Rt := ex_cons (ex1_if t x y) fun _ n => ex_nil n
theorem ex_ret {e : Expr} {pos : Pos} {d : PyData} {rest : List Stmt} (x : Ev W A fe lev fe (vals ρ) e d) (r : Rt ρ d) : Ex W A fe lev g M ρ (.Return (some e) pos :: rest) Nx Rt := ex_last (ex1_ret x r)
theorem ex_set {x : Str} {px pos : Pos} {e : Expr} {d : PyData} {rest : List Stmt} (he : Ev W A fe lev fe (vals ρ) e d) (n : Nm fe ρ x) (hM : Off M ρ d) (hs : swapsWith e (some (.Name x px)) pos.line fe = pure false)
    (k : Ex W A fe lev g M ((x, .val d) :: ρ) rest Nx Rt) : Ex W A fe lev g M ρ (.Assign [.Name x px] e pos :: rest) Nx Rt := ex_seq (ex1_assign he n hM hs) k
theorem ex_swap {elts : List Expr} {k : Nat} {tpos pos : Pos} {value : Expr} {rest : List Stmt} {ds : List PyData} (he : Ev W A fe lev fe (vals ρ) value (.tuple ds)) (hl : (namesOf elts).length = ds.length)
    (hM : ∀ d ∈ ds, Off M ρ d) (hs : Stos W A fe ρ ((namesOf elts).zip ds).reverse (((namesOf elts).zip ds).reverse.map fun p => bindName fe p.1))
    (hsw : swapsWithSole [.Tuple elts k tpos] value pos.line fe = pure false) (hw : swappedStores [.Tuple elts k tpos] value fe = pure (some (namesOf elts))) (x : Ex W A fe lev g M (pushR (namesOf elts) ds ρ) rest Nx Rt) :
    Ex W A fe lev g M ρ (.Assign [.Tuple elts k tpos] value pos :: rest) Nx Rt := by
  rw [pushR_eq] at x
  generalize namesOf elts = ns at *
  have e1 : (ns.zip ds).map (·.1) = ns := List.map_fst_zip (by omega)
  have e2 : (ns.zip ds).map (·.2) = ds := List.map_snd_zip (by omega)
  exact ex_seq (ex1_swap (xs := ns.zip ds) (by rw [e2]; exact he) (by rw [e2]; exact hM) hs hsw (by rw [e1]; exact hw)) x
theorem offs_nil {ρ : Rho} : ∀ d ∈ ([] : List PyData), Off M ρ d := fun _ h => nomatch h
theorem offs_cons {ρ : Rho} {d : PyData} {ds : List PyData} (x : Off M ρ d) (y : ∀ d ∈ ds, Off M ρ d) : ∀ e ∈ d :: ds, Off M ρ e := fun e he => by
  rcases List.mem_cons.mp he with rfl | he
  · exact x
  · exact y e he
theorem mem_next {α β : Type} {x : α} {d : β} {p : α × β} {r : List (α × β)} (h : (x, d) ∈ r) : (x, d) ∈ p :: r := .tail _ h
theorem mem_here {α β : Type} {x : α} {d : β} {r : List (α × β)} : (x, d) ∈ (x, d) :: r := .head _
theorem nm_new {x : Str} (k : fe.kindOf x = some .local ∨ (fe.kindOf x = some .cell ∧ (fe.cells.lookup x).isSome = true)) (n : (ρ.all fun p => p.1 != x) = true) (h1 : (x == ("__debug__" : Str)) = false) (h2 : (x == ("__classdict__" : Str)) = false) : Nm fe ρ x := ⟨k, n, h1, h2⟩
end
theorem ex_unpack {W : Wd} {A : Around} {fe : Env} {lev : Nat} {g : Heap} {M : List Addr} {ρ : Rho} {Nx : Rho → Prop} {Rt : Rho → PyData → Prop} {elts : List Expr} {k : Nat} {tpos pos : Pos} {value : Expr} {rest : List Stmt} {xs : List (Str × PyData)} (he : Ev W A fe lev fe (vals ρ) value (.tuple (xs.map (·.2))))
    (hM : ∀ d ∈ xs.map (·.2), Off M ρ d) (hs : Stos W A fe ρ xs ((assignEach elts fe).map (·.2))) (hn : (assignEach elts fe).length = xs.length) (hstar : (assignEach elts fe).findIdx? (·.1) = none)
    (hsw : swapsWithSole [.Tuple elts k tpos] value pos.line fe = pure false) (hw : swappedStores [.Tuple elts k tpos] value fe = pure none) (x : Ex W A fe lev g M (push xs ρ) rest Nx Rt) :
    Ex W A fe lev g M ρ (.Assign [.Tuple elts k tpos] value pos :: rest) Nx Rt := ex_seq (ex1_unpack he hM hs hn hstar hsw hw) x
noncomputable def neg (x : Int) (s : Sg) (k : Int) : PyData := match s with
  | .le => lit x .ge (k + 1)
  | .ge => lit x .le (k - 1)
  | .eq => lit x .ne k
  | .ne => lit x .eq k
noncomputable def l2 : List Sg := [.eq, .ne]
theorem lit_lay {x k : Int} {s : Sg} : (lit x s k).canLay0 = true := by
  simp only [lit, PyData.canLay0, PyData.canLayAll0, Bool.true_and, Bool.and_true]
  cases s <;> decide +kernel
theorem lit_depth {x k : Int} {s : Sg} : (lit x s k).depth = 1 := by
  simp [lit, PyData.depth, PyData.depthAll]
theorem str_eq {s t : Sg} : (s.str == t.str) = decide (s = t) := by cases s <;> cases t <;> decide +kernel
theorem lit_eqv {x k y m : Int} {s t : Sg} : PyData.eqv (lit x s k) (lit y t m) = (x == y && (decide (s = t) && k == m)) := by
  simp only [lit, PyData.eqv, PyData.eqvAll, str_eq, Bool.and_true]
theorem co_eqLit {W : Wd} {A : Around} {fe : Env} {lev : Nat} {x k y m : Int} {s t : Sg} : Co W A fe lev .Eq (lit x s k) (lit y t m) (x == y && (decide (s = t) && k == m)) := by
  rw [← lit_eqv]
  exact co_eq lit_lay lit_lay (by rw [lit_depth]; decide)
local macro_rules | `(tactic| keq_rows) => `(tactic| first | exact mem_here | (refine' mem_next ?n; (case n => keq_rows)))
local macro_rules | `(tactic| kas_types) => `(tactic| (refine' nm_new ?a ?b ?c ?d; (case a => first | exact Or.inl rfl | exact Or.inr (And.intro rfl rfl)); (case b => exact rfl); (case c => exact rfl); (case d => exact rfl)))
local macro_rules | `(tactic| keq_hits) => `(tactic| first | exact Stos.nil | (refine Stos.cons ?_ ?_ ?_; kas_types; (first | exact sto_bind | exact sto_assign); keq_hits))
local macro_rules | `(tactic| lcg_off) => `(tactic| with_reducible first
  | exact bo_add | exact bo_sub | exact co_le | exact co_lt | exact co_ge | exact co_gt | exact co_eqI | exact co_neI | exact co_eqB | exact co_eqLit
  | (refine co_eqS ?_ ?_ <;> decide +kernel))
local macro_rules | `(tactic| lcg_src) => `(tactic| first
  | with_reducible exact ev_none
  | ((with_reducible refine' ev_name ?m); (case m => keq_rows))
  | ((with_reducible show Ev _ _ _ _ _ _ _ _); first
    | ((with_reducible show Ev _ _ _ _ _ _ (Expr.Constant _ _ _) _); (first | exact ev_int | exact ev_str | exact ev_bool))
    | ((first | ((with_reducible show Ev _ _ _ _ _ _ (Expr.Tuple _ _ _) _); refine' ev_tuple ?e ?k) | ((with_reducible show Ev _ _ _ _ _ _ (Expr.List _ _) _); refine' ev_list ?e ?k)); (case e => lcg_src); (case k => exact Nat.le_of_ble_eq_true rfl))
    | ((with_reducible show Ev _ _ _ _ _ _ (Expr.Subscript _ _ _) _); refine' ev_itemT ?x ?y ?j ?d ?lo ?hi ?s; (case s => exact fun _ _ => rfl); (case x => lcg_src); (case y => lcg_src); (case j => exact rfl); (case d => exact rfl); (case lo => decide); (case hi => decide)))
  | ((with_reducible show Evs _ _ _ _ _ _ _ _); (first | exact evs_nil | (refine' evs_cons ?a ?b ?c; (case c => exact rfl); (case a => lcg_src); (case b => lcg_src))))
  | ((with_reducible first | refine' ev_neg ?a | refine' ts_bool ?a | refine' ts_not ?a); (case a => lcg_src))
  | ((with_reducible refine' ev_iteT ?t ?h ?a); (case t => lcg_src); (case h => decide +kernel); (case a => lcg_src))
  | ((with_reducible refine' ev_iteF ?t ?h ?a); (case t => lcg_src); (case h => decide +kernel); (case a => lcg_src))
  | ((with_reducible first | refine' ev_and ?a ?b | refine' ev_or ?a ?b | refine' tsa_and ?a ?b | refine' tsa_or ?a ?b); (case a => lcg_src); (case b => (intro _; lcg_src)))
  | with_reducible exact tsa_and_nil
  | with_reducible exact tsa_or_nil
  | ((with_reducible first | refine' ev_cmp ?a ?b ?c ?d | refine' ts_cmp ?a ?b ?c ?d); (case d => with_unfolding_all rfl); (case a => lcg_src); (case b => lcg_src); (case c => lcg_off))
  | ((with_reducible refine' ev_bin ?a ?b ?c); (case a => lcg_src); (case b => lcg_src); (case c => lcg_off)))
local macro_rules | `(tactic| keq_rows) => `(tactic| first | exact Or.inl rfl | exact Or.inr (Or.inl rfl) | exact fun _ _ => Or.inl rfl | exact offs_nil | (refine' offs_cons ?a ?b; (case a => keq_rows); (case b => keq_rows)))
local macro_rules | `(tactic| kpf_close) => `(tactic| first
  | ((with_reducible refine' ex_ret ?e ?r); (case e => lcg_src); first | (case r => exact rfl) | skip)
  | ((with_reducible refine' ex_set ?e ?n ?m ?s ?k); (case s => exact rfl); (case n => kas_types); (case e => lcg_src); (case m => keq_rows))
  | ((with_reducible refine' ex_swap ?e ?l ?m ?s ?a ?b ?k); (case a => exact rfl); (case b => exact rfl); (case e => lcg_src); (case l => exact rfl); (case m => keq_rows); (case s => keq_hits))
  | ((with_reducible refine' ex_ifRet ?t ?h ?x); (case t => lcg_src); (case h => decide +kernel))
  | ((with_reducible refine' ex_ifSkip ?t ?h ?x); (case t => lcg_src); (case h => decide +kernel)))
theorem is_met_fn {W : Wd} {x k v : Int} {s : Sg} : Fn W 0 "is_met" [lit x s k, .int v] (.bool (isMet s k v)) := by
  refine fn_intro r_is_met _ def_is_met rfl fun A L a cd g lev _ => ?_
  refine ex_body ?_ rfl
  cases s <;> repeat kpf_close
theorem co_inSg {W : Wd} {A : Around} {fe : Env} {lev : Nat} {s : Sg} {l : List Sg} : Co W A fe lev .In (.str s.str) (.list (l.map fun t => .str t.str)) (l.contains s) := by
  have ok : ∀ t : Sg, PyData.strOk t.str = true := fun t => by cases t <;> decide +kernel
  refine co_inS (ok s) ?_ ?_
  · induction l with
    | nil => simp [PyData.canLayAll0]
    | cons t l ih => simp [PyData.canLayAll0, PyData.canLay0, ok t] at ih ⊢; exact ih
  · induction l with
    | nil => rfl
    | cons t l ih =>
      simp only [List.map_cons, List.any_cons, PyData.eqv, str_eq, ih, List.contains_cons]
      cases s <;> cases t <;> rfl
theorem co_inTSg {W : Wd} {A : Around} {fe : Env} {lev : Nat} {s : Sg} {l : List Sg} : Co W A fe lev .In (.str s.str) (.tuple (l.map fun t => .str t.str)) (l.contains s) := by
  have ok : ∀ t : Sg, PyData.strOk t.str = true := fun t => by cases t <;> decide +kernel
  refine co_inTS (ok s) ?_ ?_
  · induction l with
    | nil => simp [PyData.canLayAll0]
    | cons t l ih => simp [PyData.canLayAll0, PyData.canLay0, ok t] at ih ⊢; exact ih
  · induction l with
    | nil => rfl
    | cons t l ih =>
      simp only [List.map_cons, List.any_cons, PyData.eqv, str_eq, ih, List.contains_cons]
      cases s <;> cases t <;> rfl
theorem law_met_fn {W : Wd} {x k v : Int} {s : Sg} : Fn W 0 "_law_met" [lit x s k, .int v] (.bool (isMet s k v)) := by
  refine fn_intro r_law_met _ def_law_met rfl fun A L a cd g lev _ => ?_
  refine ex_body ?_ rfl
  kpf_close
  have h : (l2).contains s = decide (s = .eq ∨ s = .ne) := by cases s <;> rfl
  cases s
  · refine ex_ifSkip (b := l2.contains .le) ?_ rfl ?_
    · refine ts_cmp ?_ ?_ (co_inSg (l := l2)) rfl <;> lcg_src
    repeat kpf_close
  · refine ex_ifSkip (b := l2.contains .ge) ?_ rfl ?_
    · refine ts_cmp ?_ ?_ (co_inSg (l := l2)) rfl <;> lcg_src
    repeat kpf_close
  · refine ex_ifRet (b := l2.contains .eq) ?_ rfl ?_
    · refine ts_cmp ?_ ?_ (co_inSg (l := l2)) rfl <;> lcg_src
    kpf_close
    have e : (Sg.eq.str == Str.ofString "=") = true := by decide +kernel
    rw [e]
    simp [isMet]
  · refine ex_ifRet (b := l2.contains .ne) ?_ rfl ?_
    · refine ts_cmp ?_ ?_ (co_inSg (l := l2)) rfl <;> lcg_src
    kpf_close
    have e : (Sg.ne.str == Str.ofString "=") = false := by decide +kernel
    rw [e]
    simp [isMet, bne]
theorem negation_fn {W : Wd} {x k : Int} {s : Sg} : Fn W 0 "negation" [lit x s k] (neg x s k) := by
  refine fn_intro r_negation _ def_negation rfl fun A L a cd g lev _ => ?_
  refine ex_body ?_ rfl
  refine ex_unpack (xs := [("x", .int x), ("sign", .str s.str), ("k", .int k)]) ?_ ?_ ?_ ?_ ?_ ?_ ?_ ?_
  · exact ev_name mem_here
  · keq_rows
  · keq_hits
  · exact rfl
  · exact rfl
  · exact rfl
  · exact rfl
  cases s <;> repeat kpf_close
local macro_rules | `(tactic| lcg_src) => `(tactic| ((with_reducible show Ev _ _ _ _ _ _ (Expr.Call (Expr.Name (Str.ofString "is_met") _) _ _ _) _); refine' ev_call r_is_met recIs_mem rfl ?k ?a is_met_fn ?n ?d ?e; (case k => exact rfl); (case d => exact rfl); (case e => exact rfl); (case n => omega); (case a => lcg_src)))
noncomputable def implB (x : Int) (s : Sg) (k : Int) (y : Int) (t : Sg) (m : Int) : Bool := !(x != y) && match s with
  | .eq => isMet t m k
  | .ne => decide (t = .ne) && (k == m)
  | .le => (decide (t = .le) && decide (k ≤ m)) || (decide (t = .ne) && decide (k < m))
  | .ge => (decide (t = .ge) && decide (k ≥ m)) || (decide (t = .ne) && decide (k > m))
theorem implies_fn {W : Wd} {x k y m : Int} {s t : Sg} : Fn W 1 "implies" [lit x s k, lit y t m] (.bool (implB x s k y t m)) := by
  refine fn_intro r_implies _ def_implies rfl fun A L a cd g lev _ => ?_
  refine ex_body ?_ rfl
  kpf_close
  have e1 : Str.ofString "<=" = Sg.le.str := rfl
  have e2 : Str.ofString ">=" = Sg.ge.str := rfl
  have e3 : Str.ofString "!=" = Sg.ne.str := rfl
  cases hx : x != y
  · refine ex_ifSkip (b := x != y) ?_ hx ?_
    · lcg_src
    cases s
    · cases t <;> repeat kpf_close
      all_goals (rw [e1, e3]; simp only [str_eq]; simp [implB, hx])
    · cases t <;> repeat kpf_close
      all_goals (rw [e2, e3]; simp only [str_eq]; simp [implB, hx])
    · repeat kpf_close
      simp [implB, hx]
    · kpf_close
      kpf_close
      refine ex_ret (ev_cmp (ev_name (mem_next (mem_next mem_here))) (ev_name (mem_next (mem_next (mem_next mem_here)))) co_eqLit rfl) ?_
      have hx' : (x == y) = true := by simpa [bne] using hx
      simp only [implB, hx, hx']
      cases t <;> simp
  · refine ex_ifRet (b := x != y) ?_ hx ?_
    · lcg_src
    kpf_close
    simp [implB, hx]
section
variable {W : Wd} {A : Around} {fe : Env} {lev : Nat} {g : Heap} {M : List Addr} {ρ : Rho}
theorem tg_tuple {elts : List Expr} {k : Nat} {tpos : Pos} {xs : List (Str × PyData)} (hI : ∀ d ∈ xs.map (·.2), imm d = true) (hs : Stos W A fe ρ xs ((assignEach elts fe).map (·.2))) (hn : (assignEach elts fe).length = xs.length) (hstar : (assignEach elts fe).findIdx? (·.1) = none) :
    Tg W A fe lev g M (.Tuple elts k tpos) (.tuple (xs.map (·.2))) ρ (push xs ρ) := by
  intro v s Q E S r kk
  obtain ⟨a, its, rfl, ht, hr⟩ := r.rd.tuple
  have hlen : its.size = xs.length := by have := hr.length; simpa using this
  refine wpAny_assign_Tuple S.hand ht (by rw [hn, hlen]) hstar fun h'' ex => ?_
  have l2 := le_of_ext ex
  have S2 := S.up l2
  refine store_all (s := { s with heap := h'' }) S2 hs (RdAll.offs S2 (hr.up l2) fun d hd => .inr (.inl (hI d hd))) (by simpa using hlen) fun h3 tk3 f3 S3 => ?_
  exact kk h3 tk3 ((Fp.of l2).trans f3) S3
end
noncomputable def seg (p : Int × Int) : PyData := .tuple [.int p.1, .int p.2]
noncomputable def dom (d : List (Int × Int)) : PyData := .tuple (d.map seg)
theorem seg_imm {p : Int × Int} : imm (seg p) = true := rfl
theorem idx0 {n : Nat} : seqIndex? 0 (n + 1) = some 0 := by
  unfold seqIndex?; simp; try omega
theorem idxLast {n : Nat} : seqIndex? (-1) (n + 1) = some n := by
  unfold seqIndex?; simp; try omega
theorem least_fn {W : Wd} {a b : Int} {d : List (Int × Int)} : Fn W 0 "least" [dom ((a, b) :: d)] (.int a) := by
  refine fn_intro r_least _ def_least rfl fun A L a cd g lev _ => ?_
  refine ex_body ?_ rfl
  refine ex_ret (d := .int _) ?_ rfl
  refine ev_itemT (l := [.int _, .int b]) (j := 0) (k := 0) ?_ ev_int rfl rfl (by decide) (by decide) fun _ _ => rfl
  refine ev_itemT (l := seg (_, b) :: d.map seg) (j := 0) (k := 0) ?_ ev_int ?_ rfl (by decide) (by decide) fun _ _ => rfl
  · exact ev_name mem_here
  · exact idx0
theorem greatest_fn {W : Wd} {a b : Int} {d : List (Int × Int)} : Fn W 0 "greatest" [dom (d ++ [(a, b)])] (.int b) := by
  refine fn_intro r_greatest _ def_greatest rfl fun A L a' cd g lev _ => ?_
  refine ex_body ?_ rfl
  refine ex_ret (d := .int _) ?_ rfl
  refine ev_itemT (l := [.int a, .int b]) (j := 1) (k := 1) ?_ ev_int rfl rfl (by decide) (by decide) fun _ _ => rfl
  refine ev_itemT (l := d.map seg ++ [seg (a, b)]) (j := d.length) (k := -1) ?_ (ev_neg ev_int) ?_ ?_ (by decide) (by decide) fun _ _ => rfl
  · refine ev_name ?_
    have e : PyData.tuple (d.map seg ++ [seg (a, b)]) = dom (d ++ [(a, b)]) := by simp [dom]
    rw [e]
    exact mem_here
  · simp only [List.length_append, List.length_map, List.length_cons, List.length_nil]
    exact idxLast
  · simp [seg]
noncomputable def nextFrom : List (Int × Int) → Int → Option Int
  | [], _ => none
  | (a, b) :: r, v => if v ≤ b then some (if v > a then v else a) else nextFrom r v
noncomputable def optD : Option Int → PyData
  | none => .none
  | some i => .int i
theorem nextFrom_skip {v : Int} : ∀ {q r : List (Int × Int)}, (∀ p ∈ q, ¬ v ≤ p.2) → nextFrom (q ++ r) v = nextFrom r v
  | [], _, _ => rfl
  | (a, b) :: q, r, h => by
    rw [List.cons_append, nextFrom, if_neg (h (a, b) (.head _))]
    exact nextFrom_skip fun p hp => h p (.tail _ hp)
theorem next_from_fn {W : Wd} {d : List (Int × Int)} {v : Int} : Fn W 0 "next_from" [dom d, .int v] (optD (nextFrom d v)) := by
  refine fn_intro r_next_from _ def_next_from rfl fun A L a' cd g lev _ => ?_
  refine ex_body ?_ rfl
  refine ex_cons (N₁ := fun ρ' => ρ' = ([("d", .val (dom d)), ("v", .val (.int v))] : Rho) ∧ ∀ p ∈ d, ¬ v ≤ p.2) (Ex1.imp ?_ (fun _ _ h => h) (for_tuple (ds := d.map seg) (fun pre ρ' => ρ' = ([("d", .val (dom d)), ("v", .val (.int v))] : Rho) ∧ ∃ q : List (Int × Int), pre = q.map seg ∧ ∀ p ∈ q, ¬ v ≤ p.2) ?_ ?_ ?_ ?_ ?_)) ?_
  · rintro ρ' ⟨h1, q, h2, h3⟩
    refine ⟨h1, fun p hp => ?_⟩
    have : seg p ∈ q.map seg := h2 ▸ List.mem_map.mpr ⟨p, hp, rfl⟩
    obtain ⟨p', hp', e⟩ := List.mem_map.mp this
    have : p' = p := by obtain ⟨a, b⟩ := p; obtain ⟨a', b'⟩ := p'; simp [seg] at e; simp [e]
    exact this ▸ h3 p' hp'
  · exact ev_name mem_here
  · exact fun _ _ => .inl rfl
  · exact ⟨rfl, [], rfl, fun _ h => nomatch h⟩
  · rintro pre x post ρ' hds ⟨rfl, q, rfl, hq⟩
    obtain ⟨q', r, hd, hq', hr⟩ := List.map_eq_append_iff.mp hds
    obtain ⟨⟨a, b⟩, r', rfl, rfl, _⟩ := List.map_eq_cons_iff.mp hr
    have hqq : q' = q := by
      have inj : ∀ p p' : Int × Int, seg p = seg p' → p = p' := fun p p' e => by
        obtain ⟨a, b⟩ := p; obtain ⟨a', b'⟩ := p'; simp [seg] at e; simp [e]
      exact List.map_inj_right (fun {x y} => inj x y) |>.mp hq'
    subst hqq
    refine ⟨_, tg_tuple (xs := [("low", .int a), ("high", .int b)]) ?_ ?_ rfl rfl, ?_⟩
    · intro d hd; simp at hd; rcases hd with rfl | rfl <;> rfl
    · keq_hits
    · refine ex_ifTail (b := decide (v ≤ b)) ?_ (fun h => ?_) fun h => ?_
      · lcg_src
      · refine ex_ret (d := .int (if v > a then v else a)) ?_ ?_
        · refine ev_callB (id := "max") rfl (by decide) (by boot_by_name) ?_ cl_max
          lcg_src
        · rw [hd, nextFrom_skip hq, nextFrom, if_pos (of_decide_eq_true h)]
          rfl
      · refine ex_nil ⟨_, fun p hp => .tail _ (.tail _ hp), rfl, q' ++ [(a, b)], by simp, fun p hp => ?_⟩
        rcases List.mem_append.mp hp with hp | hp
        · exact hq p hp
        · obtain rfl := List.mem_singleton.mp hp
          exact of_decide_eq_false h
  · exact fun _ => rfl
  · rintro ρ' ⟨rfl, h⟩
    refine ex_ret (d := .none) ?_ ?_
    · lcg_src
    · have := nextFrom_skip (v := v) (q := d) (r := []) h
      rw [List.append_nil] at this
      rw [this]; rfl
noncomputable def hasB (d : List (Int × Int)) (v : Int) : Bool := nextFrom d v == some v
theorem optD_eqv {o : Option Int} {v : Int} : PyData.eqv (optD o) (.int v) = (o == some v) := by
  cases o with
  | none => simp [optD, PyData.eqv]
  | some i => simp [optD, PyData.eqv]
theorem has_fn {W : Wd} {d : List (Int × Int)} {v : Int} : Fn W 1 "has" [dom d, .int v] (.bool (hasB d v)) := by
  refine fn_intro r_has _ def_has rfl fun A L a' cd g lev _ => ?_
  refine ex_body ?_ rfl
  refine ex_ret (d := .bool (PyData.eqv (optD (nextFrom d v)) (.int v))) ?_ (by rw [optD_eqv]; rfl)
  refine ev_cmp ?_ ?_ (co_eq ?_ ?_ ?_) rfl
  · refine ev_call r_next_from recIs_mem rfl rfl ?_ next_from_fn (by omega) rfl rfl
    lcg_src
  · lcg_src
  · cases nextFrom d v <;> simp [optD, PyData.canLay0]
  · simp [PyData.canLay0]
  · cases nextFrom d v <;> simp [optD, PyData.depth]
local macro_rules | `(tactic| lcg_src) => `(tactic| ((with_reducible show Ev _ _ _ _ _ _ (Expr.Call (Expr.Name (Str.ofString "next_from") _) _ _ _) _); refine' ev_call r_next_from recIs_mem rfl ?k ?a next_from_fn ?n ?d ?e; (case k => exact rfl); (case d => exact rfl); (case e => exact rfl); (case n => omega); (case a => lcg_src)))
noncomputable def upTo (d : List (Int × Int)) (k : Int) : List (Int × Int) := d.flatMap fun p => if p.1 ≤ k then [(p.1, if k < p.2 then k else p.2)] else []
noncomputable def fromOn (d : List (Int × Int)) (k : Int) : List (Int × Int) := d.flatMap fun p => if p.2 ≥ k then [(if k > p.1 then k else p.1, p.2)] else []
noncomputable def outOf (f : Int × Int → List (Int × Int)) : PyData → List PyData
  | .tuple [.int a, .int b] => (f (a, b)).map seg
  | _ => []
theorem outOf_dom {f : Int × Int → List (Int × Int)} {d : List (Int × Int)} : (d.map seg).flatMap (outOf f) = (d.flatMap f).map seg := by
  induction d with
  | nil => rfl
  | cons p d ih => simp only [List.map_cons, List.flatMap_cons, ih, List.map_append]; rfl
theorem flat_len {f : Int × Int → List (Int × Int)} (h : ∀ p, (f p).length ≤ 1) {d : List (Int × Int)} : (d.flatMap f).length ≤ d.length := by
  induction d with
  | nil => exact Nat.le_refl _
  | cons p d ih =>
    have := h p
    simp only [List.flatMap_cons, List.length_append, List.length_cons]
    omega
theorem up_to_fn {W : Wd} {d : List (Int × Int)} {k : Int} (hd : d.length ≤ 1000) : Fn W 0 "up_to" [dom d, .int k] (dom (upTo d k)) := by
  refine fn_intro r_up_to _ def_up_to rfl fun A L a' cd g lev _ => ?_
  refine ex_body ?_ rfl
  have hlen : (upTo d k).length ≤ 1000 := Nat.le_trans (flat_len fun p => by split <;> simp) hd
  refine ex_ret (d := dom (upTo d k)) ?_ rfl
  refine ev_callT (id := "tuple") (ds := [.list ((upTo d k).map seg)]) rfl (by decide) (by boot_by_name) ?_ (cl_tuple ?_)
  · refine evs_cons ?_ evs_nil rfl
    rw [upTo, ← outOf_dom]
    refine ev_comp (cl := [("k", L + 1)]) (ρ₀ := [("k", .int k)]) (ds := d.map seg) (itb_tuple (ev_name mem_here) ?_) ⟨rfl, ⟨rfl, trivial⟩, ?_, rfl, by decide, fun _ => rfl⟩ _ ?_ fun hA C D G x hx => ?_
    · intro x hx; obtain ⟨p, _, rfl⟩ := List.mem_map.mp hx; exact seg_imm
    · intro p hp
      obtain rfl := List.mem_singleton.mp hp
      exact ⟨by keq_rows, .inl rfl, fun _ => .inl rfl, fun _ => rfl⟩
    · rw [outOf_dom, List.length_map]; exact Nat.le_trans hlen (by decide)
    · obtain ⟨⟨a, b⟩, _, rfl⟩ := List.mem_map.mp hx
      refine ⟨_, tc_pair hA ⟨.inl rfl, rfl, rfl, rfl⟩ ⟨.inl rfl, rfl, rfl, rfl⟩, ?_⟩
      have e : outOf (fun p => if p.1 ≤ k then [(p.1, if k < p.2 then k else p.2)] else []) (seg (a, b)) = if decide (a ≤ k) then [seg (a, if k < b then k else b)] else [] := by
        by_cases h : a ≤ k <;> simp [outOf, seg, h]
      rw [e]
      refine bd_emit1 ?_ (fun _ => ?_) seg_imm fun p hp => .tail _ (.tail _ hp)
      · lcg_src
      · refine ev_tuple (evs_cons (ev_name ?_) (evs_cons ?_ evs_nil rfl) rfl) (Nat.le_of_ble_eq_true rfl)
        · keq_rows
        · refine ev_callB (id := "min") rfl (by decide) (by boot_by_name) ?_ cl_min
          lcg_src
  · rw [List.length_map]; exact Nat.le_trans hlen (by decide)
theorem from_on_fn {W : Wd} {d : List (Int × Int)} {k : Int} (hd : d.length ≤ 1000) : Fn W 0 "from_on" [dom d, .int k] (dom (fromOn d k)) := by
  refine fn_intro r_from_on _ def_from_on rfl fun A L a' cd g lev _ => ?_
  refine ex_body ?_ rfl
  have hlen : (fromOn d k).length ≤ 1000 := Nat.le_trans (flat_len fun p => by split <;> simp) hd
  refine ex_ret (d := dom (fromOn d k)) ?_ rfl
  refine ev_callT (id := "tuple") (ds := [.list ((fromOn d k).map seg)]) rfl (by decide) (by boot_by_name) ?_ (cl_tuple ?_)
  · refine evs_cons ?_ evs_nil rfl
    rw [fromOn, ← outOf_dom]
    refine ev_comp (cl := [("k", L + 1)]) (ρ₀ := [("k", .int k)]) (ds := d.map seg) (itb_tuple (ev_name mem_here) ?_) ⟨rfl, ⟨rfl, trivial⟩, ?_, rfl, by decide, fun _ => rfl⟩ _ ?_ fun hA C D G x hx => ?_
    · intro x hx; obtain ⟨p, _, rfl⟩ := List.mem_map.mp hx; exact seg_imm
    · intro p hp
      obtain rfl := List.mem_singleton.mp hp
      exact ⟨by keq_rows, .inl rfl, fun _ => .inl rfl, fun _ => rfl⟩
    · rw [outOf_dom, List.length_map]; exact Nat.le_trans hlen (by decide)
    · obtain ⟨⟨a, b⟩, _, rfl⟩ := List.mem_map.mp hx
      refine ⟨_, tc_pair hA ⟨.inl rfl, rfl, rfl, rfl⟩ ⟨.inl rfl, rfl, rfl, rfl⟩, ?_⟩
      have e : outOf (fun p => if p.2 ≥ k then [(if k > p.1 then k else p.1, p.2)] else []) (seg (a, b)) = if decide (b ≥ k) then [seg (if k > a then k else a, b)] else [] := by
        by_cases h : b ≥ k <;> simp [outOf, seg, h]
      rw [e]
      refine bd_emit1 ?_ (fun _ => ?_) seg_imm fun p hp => .tail _ (.tail _ hp)
      · lcg_src
      · refine ev_tuple (evs_cons ?_ (evs_cons (ev_name ?_) evs_nil rfl) rfl) (Nat.le_of_ble_eq_true rfl)
        · refine ev_callB (id := "max") rfl (by decide) (by boot_by_name) ?_ cl_max
          lcg_src
        · keq_rows
  · rw [List.length_map]; exact Nat.le_trans hlen (by decide)
noncomputable def without (d : List (Int × Int)) (v : Int) : List (Int × Int) := upTo d (v - 1) ++ fromOn d (v + 1)
theorem without_fn {W : Wd} {d : List (Int × Int)} {v : Int} (hd : d.length ≤ 1000) : Fn W 1 "without" [dom d, .int v] (dom (without d v)) := by
  refine fn_intro r_without _ def_without rfl fun A L a' cd g lev _ => ?_
  refine ex_body ?_ rfl
  have h1 : (upTo d (v - 1)).length ≤ 1000 := Nat.le_trans (flat_len fun p => by split <;> simp) hd
  have h2 : (fromOn d (v + 1)).length ≤ 1000 := Nat.le_trans (flat_len fun p => by split <;> simp) hd
  refine ex_ret (d := dom (without d v)) ?_ rfl
  have e : dom (without d v) = .tuple ((upTo d (v - 1)).map seg ++ (fromOn d (v + 1)).map seg) := by simp [dom, without]
  rw [e]
  refine ev_bin (d₁ := dom (upTo d (v - 1))) (d₂ := dom (fromOn d (v + 1))) ?_ ?_ (bo_addT ?_)
  · refine ev_call r_up_to recIs_mem rfl rfl ?_ (up_to_fn hd) (by omega) rfl rfl
    lcg_src
  · refine ev_call r_from_on recIs_mem rfl rfl ?_ (from_on_fn hd) (by omega) rfl rfl
    lcg_src
  · simp only [List.length_map]
    have : (2000 : Nat) ≤ sizeLine := by decide
    omega
noncomputable def keepOf (M : List Addr) : Rho → Rho
  | [] => []
  | (x, .val d) :: r => (x, .val d) :: keepOf M r
  | (_, .own _ _) :: r => keepOf M r
  | (x, .src a k) :: r => if a ∈ M then (x, .src a k) :: keepOf M r else keepOf M r
theorem of_keep {M : List Addr} : ∀ {ρ : Rho} {p : Str × Ent}, p ∈ keepOf M ρ → p ∈ ρ ∧ (∀ a ds, p.2 ≠ .own a ds) ∧ ∀ a k, p.2 = Ent.src a k → a ∈ M
  | (x, .val d) :: r, p, h => by
    rcases List.mem_cons.mp h with rfl | h
    · exact ⟨.head _, fun _ _ e => (by cases e), fun _ _ e => (by cases e)⟩
    · have := of_keep h; exact ⟨.tail _ this.1, this.2⟩
  | (_, .own _ _) :: r, p, h => by
    have := of_keep (ρ := r) h; exact ⟨.tail _ this.1, this.2⟩
  | (x, .src a k) :: r, p, h => by
    unfold keepOf at h
    split at h
    · rename_i ha
      rcases List.mem_cons.mp h with rfl | h
      · exact ⟨.head _, fun _ _ e => (by cases e), fun _ _ e => by cases e; exact ha⟩
      · have := of_keep h; exact ⟨.tail _ this.1, this.2⟩
    · have := of_keep h; exact ⟨.tail _ this.1, this.2⟩

section
variable {W : Wd} {A : Around} {fe : Env} {lev : Nat} {g : Heap} {M : List Addr} {ρ ρ' : Rho} {Nx : Rho → Prop} {Rt : Rho → PyData → Prop} {h h' : Heap}
theorem EntIs.grow {a : Addr} {v : Value} (ha : h.get? a = none) : ∀ {e : Ent}, EntIs W M h v e → EntIs W (a :: M) h v e
  | .val d, ⟨as, r, w⟩ => ⟨as, r, fun b hb => ⟨(w b hb).1, fun hm => by
      rcases List.mem_cons.mp hm with rfl | hm
      · obtain ⟨o, _, _, e, _⟩ := (w b hb).1
        rw [ha] at e; cases e
      · exact (w b hb).2 hm⟩⟩
  | .own b ds, ⟨e, hb, r⟩ => ⟨e, .tail _ hb, r⟩
  | .src b k, ⟨e, hb, c, t, vs, ns, d, hc, hl, r⟩ => ⟨e, .tail _ hb, c, t, vs, ns, d, fun hm => by
      rcases List.mem_cons.mp hm with rfl | hm
      · obtain ⟨o, e, _⟩ := hl
        rw [ha] at e; cases e
      · exact hc hm, hl, r⟩
theorem EntIs.shrink {M' : List Addr} (hs : ∀ b ∈ M, b ∈ M') {v : Value} : ∀ {e : Ent}, EntIs W M' h v e → (∀ b ds, e ≠ .own b ds) → (∀ b k, e = .src b k → b ∈ M) → EntIs W M h v e
  | .val d, ⟨as, r, w⟩, _, _ => ⟨as, r, fun b hb => ⟨(w b hb).1, fun hm => (w b hb).2 (hs _ hm)⟩⟩
  | .own b ds, _, h, _ => absurd rfl (h b ds)
  | .src b k, ⟨e, hb, c, t, vs, ns, d, hc, hl, r⟩, _, h => ⟨e, h b k rfl, c, t, vs, ns, d, fun hm => hc (hs _ hm), hl, r⟩
theorem St.shrink {M' : List Addr} (hs : ∀ b ∈ M, b ∈ M') (S : St W A fe lev g M' ρ h) : St W A fe lev g M (keepOf M ρ) h :=
  { S with
    mov := fun b hb => S.mov b (hs b hb)
    ents := fun p hp => by
      obtain ⟨hin, h1, h2⟩ := of_keep hp
      obtain ⟨v, hv, e⟩ := S.ents p hin
      exact ⟨v, hv, e.shrink hs h1 h2⟩ }
noncomputable def Grown (M M' : List Addr) (h : Heap) : Prop := (∀ b ∈ M, b ∈ M') ∧ ∀ b ∈ M', b ∈ M ∨ h.get? b = none
theorem Grown.refl : Grown M M h := ⟨fun _ h => h, fun _ h => .inl h⟩
theorem RdOff.grown {M' : List Addr} {v : Value} {d : PyData} (S : St W A fe lev g M ρ h) (gr : Grown M M' h) (f : Fp fe M h h') (r : RdOff M h v d) : RdOff M' h' v d := by
  have r' := r.fp S f
  obtain ⟨as, q, w⟩ := r
  have key : ∀ b ∈ as, b ∉ M' := fun b hb hm => by
    rcases gr.2 b hm with h1 | h1
    · exact (w b hb).2 h1
    · obtain ⟨o, _, _, e, _⟩ := (w b hb).1
      rw [h1] at e; cases e
  obtain ⟨m, F⟩ := S.fr
  refine ⟨as, reads_but q (fun _ h => h) (fun a ha => (w a ha).1) fun b o xs n e q c => ?_, fun b hb => ⟨?_, key b hb⟩⟩
  · refine f b o e (fun e' => ns_not_seq F.ns ⟨o, xs, n, e' ▸ e, q⟩) (fun y hy => ?_) (fun hm => ?_)
    · obtain ⟨_, _, v, ci⟩ := S.cells y b hy
      exact cell_not_seq ci ⟨o, xs, n, e, q⟩
    · rcases c with c | c
      · obtain ⟨_, _, o', e', _, c'⟩ := S.mov b hm
        rw [e] at e'; cases e'
        exact c' c
      · exact (w b c).2 hm
  · obtain ⟨o, xs, n, e, q⟩ := (w b hb).1
    refine ⟨o, xs, n, f b o e (fun e' => ns_not_seq F.ns ⟨o, xs, n, e' ▸ e, q⟩) (fun y hy => ?_) (w b hb).2, q⟩
    obtain ⟨_, _, v, ci⟩ := S.cells y b hy
    exact cell_not_seq ci ⟨o, xs, n, e, q⟩
theorem St.grow (S : St W A fe lev g M ρ h) (l : Le h h') {a : Addr} (ha : h.get? a = none) {vs : Array Value} (hp : h'.PlainList a vs) : St W A fe lev g (a :: M) ρ h' := by
  obtain ⟨m, F⟩ := S.fr
  have S' := S.up l
  refine { S' with mov := fun b hb => ?_, ents := fun p hp => ?_ }
  · rcases List.mem_cons.mp hb with rfl | hb
    · obtain ⟨n, e⟩ := hp
      refine ⟨?_, fun e' => ?_, _, e, fun v (h : Data.seq vs n = Data.cell v) => (nomatch h), fun (h : Value.type "list" = Value.type "tuple") => by simp at h⟩
      · cases q : g.get? b with
        | none => rfl
        | some o => rw [S.le _ _ q] at ha; cases ha
      · obtain ⟨o, _, _, e1, _⟩ := F.ns
        rw [← e', ha] at e1; cases e1
    · exact S'.mov b hb
  · obtain ⟨v, hv, e⟩ := S.ents p hp
    exact ⟨v, hv.up l, (e.grow ha).up l⟩

inductive EntsAre (W : Wd) (M : List Addr) (h : Heap) : List Value → List Ent → Prop
  | nil : EntsAre W M h [] []
  | cons {v : Value} {e : Ent} {vs : List Value} {es : List Ent} : EntIs W M h v e → EntsAre W M h vs es → EntsAre W M h (v :: vs) (e :: es)
theorem EntsAre.map {M' : List Addr} (k : ∀ v e, EntIs W M h v e → EntIs W M' h' v e) : ∀ {vs : List Value} {es : List Ent}, EntsAre W M h vs es → EntsAre W M' h' vs es
  | _, _, .nil => .nil
  | _, _, .cons a b => .cons (k _ _ a) (EntsAre.map k b)
theorem EntsAre.length : ∀ {vs : List Value} {es : List Ent}, EntsAre W M h vs es → vs.length = es.length
  | _, _, .nil => rfl
  | _, _, .cons _ b => by rw [List.length_cons, List.length_cons, EntsAre.length b]
theorem EntsAre.append : ∀ {vs : List Value} {es : List Ent} {ws : List Value} {fs : List Ent}, EntsAre W M h vs es → EntsAre W M h ws fs → EntsAre W M h (vs ++ ws) (es ++ fs)
  | _, _, _, _, .nil, y => y
  | _, _, _, _, .cons a b, y => .cons a (EntsAre.append b y)
theorem EntsAre.reverse : ∀ {vs : List Value} {es : List Ent}, EntsAre W M h vs es → EntsAre W M h vs.reverse es.reverse
  | _, _, .nil => .nil
  | _, _, .cons a b => by
    rw [List.reverse_cons, List.reverse_cons]
    exact (EntsAre.reverse b).append (.cons a .nil)

noncomputable def pushE : List (Str × Ent) → Rho → Rho
  | [], ρ => ρ
  | p :: r, ρ => pushE r (p :: ρ)
noncomputable def pushRE : List Str → List Ent → Rho → Rho
  | x :: xs, d :: ds, ρ => (x, d) :: pushRE xs ds ρ
  | _, _, ρ => ρ
theorem pushE_append : ∀ (a b : List (Str × Ent)) (ρ : Rho), pushE (a ++ b) ρ = pushE b (pushE a ρ)
  | [], _, _ => rfl
  | _ :: r, b, ρ => pushE_append r b _
theorem pushRE_eq : ∀ (ns : List Str) (ds : List Ent) (ρ : Rho), pushRE ns ds ρ = pushE (ns.zip ds).reverse ρ
  | [], _, _ => by simp [pushRE, pushE]
  | _ :: _, [], _ => by simp [pushRE, pushE]
  | x :: xs, d :: ds, ρ => by
    rw [pushRE, pushRE_eq xs ds ρ, List.zip_cons_cons, List.reverse_cons, pushE_append]
    rfl
inductive StosE (fe : Env) : Rho → List (Str × Ent) → Prop
  | nil {ρ : Rho} : StosE fe ρ []
  | cons {ρ : Rho} {x : Str} {e : Ent} {r : List (Str × Ent)} : Nm fe ρ x → StosE fe ((x, e) :: ρ) r → StosE fe ρ ((x, e) :: r)
theorem store_allE : ∀ {xs : List (Str × Ent)} {vs : List Value} {ρ : Rho} {s : Shared} {Q : Unit → Shared → Prop} {E : Value → Shared → Prop},
    St W A fe lev g M ρ s.heap → StosE fe ρ xs → EntsAre W M s.heap vs (xs.map (·.2)) →
    (∀ h' tk, Fp fe M s.heap h' → St W A fe lev g M (pushE xs ρ) h' → Q () { s with heap := h', toks := tk }) → wpAny (model W.prog W.w) A (assignInOrder (xs.map fun p => bindName fe p.1) vs) Q E s
  | [], vs, ρ, s, Q, E, S, _, ev, k => by
    cases ev
    exact assignInOrder_nil (k s.heap s.toks (Fp.refl _) S)
  | (x, e) :: r, vs, ρ, s, Q, E, S, .cons n t, ev, k => by
    cases ev with
    | cons a b =>
      refine assignInOrder_cons (wpAny_bindName (S.storeE n.kind a n.new n.h1 n.h2 fun h' tk f z S' => ?_))
      exact store_allE (s := { s with heap := h', toks := tk }) S' t (b.map z) fun h'' tk' f' S'' => k h'' tk' (f.trans f') S''

noncomputable def Xs (W : Wd) (A : Around) (fe : Env) (lev : Nat) (g : Heap) (M : List Addr) (ρ : Rho) (es : List Expr) (P : List Addr → Rho → List Ent → Prop) : Prop :=
  ∀ (pos : Pos) (s : Shared) (Q : List Value → Shared → Prop) (E : Value → Shared → Prop), St W A fe lev g M ρ s.heap →
    (∀ vs h' tk M' ρ' ents, P M' ρ' ents → Grown M M' s.heap → Fp fe M s.heap h' → St W A fe lev g M' ρ' h' → EntsAre W M' h' vs ents → Q vs { s with heap := h', toks := tk }) →
    wpAny (model W.prog W.w) A (spliced (backTo pos (starEach es fe))) Q E s
theorem xs_nil {P : List Addr → Rho → List Ent → Prop} (hP : P M ρ []) : Xs W A fe lev g M ρ [] P := fun _ s _ _ S k => spliced_none (k [] s.heap s.toks M ρ [] hP Grown.refl (Fp.refl _) S .nil)

noncomputable def Xi (W : Wd) (A : Around) (fe : Env) (lev : Nat) (g : Heap) (M : List Addr) (ρ : Rho) (e : Expr) (P : Int → Rho → Prop) : Prop :=
  ∀ (s : Shared) (Q : Value → Shared → Prop) (E : Value → Shared → Prop), St W A fe lev g M ρ s.heap →
    (∀ i t ρ' h' tk, P i ρ' → Fp fe M s.heap h' → St W A fe lev g M ρ' h' → Q (.int i t) { s with heap := h', toks := tk }) → wpAny (model W.prog W.w) A (eval e fe) Q E s
theorem xi_ev {e : Expr} {i : Int} {P : Int → Rho → Prop} (x : Ev W A fe lev fe (vals ρ) e (.int i)) (hP : P i ρ) : Xi W A fe lev g M ρ e P := by
  intro s Q E S k
  refine x s _ E S.ok S.vars fun v h' tk l r => ?_
  obtain ⟨t, rfl⟩ := r.int
  exact k i t ρ h' tk hP (Fp.of l) (S.up l)
theorem xi_mono {e : Expr} {P P' : Int → Rho → Prop} (x : Xi W A fe lev g M ρ e P) (k : ∀ i ρ', P i ρ' → P' i ρ') : Xi W A fe lev g M ρ e P' :=
  fun s Q E S q => x s Q E S fun i t ρ' h' tk p => q i t ρ' h' tk (k i ρ' p)
theorem xi_add {l r : Expr} {pos : Pos} {PP : Int → Rho → Prop} (x : Xi W A fe lev g M ρ l fun i ρ₁ => Xi W A fe lev g M ρ₁ r fun j ρ₂ => PP (i + j) ρ₂) : Xi W A fe lev g M ρ (.BinOp l .Add r pos) PP := by
  intro s Q E S k
  refine wpAny_BinOp (x s _ E S fun i t ρ₁ h₁ tk₁ p₁ f₁ S₁ => ?_)
  refine p₁ { s with heap := h₁, toks := tk₁ } _ E S₁ fun j u ρ₂ h₂ tk₂ p₂ f₂ S₂ => ?_
  exact P.add_int (k _ _ ρ₂ h₂ _ p₂ (f₁.trans f₂) S₂)

noncomputable def Xe (W : Wd) (A : Around) (fe : Env) (lev : Nat) (g : Heap) (M : List Addr) (ρ : Rho) (e : Expr) (P : List Addr → Rho → Ent → Prop) : Prop :=
  ∀ (s : Shared) (Q : Value → Shared → Prop) (E : Value → Shared → Prop), St W A fe lev g M ρ s.heap →
    (∀ v h' tk M' ρ' ent, P M' ρ' ent → Grown M M' s.heap → Fp fe M s.heap h' → St W A fe lev g M' ρ' h' → EntIs W M' h' v ent → Q v { s with heap := h', toks := tk }) → wpAny (model W.prog W.w) A (eval e fe) Q E s
theorem none_fp {b : Addr} (S' : St W A fe lev g M ρ' h') (f : Fp fe M h h') (hb : h'.get? b = none) : h.get? b = none := by
  cases q : h.get? b with
  | none => rfl
  | some o =>
    exfalso
    obtain ⟨m, F⟩ := S'.fr
    have := f b o q (fun e => ?_) (fun x e => ?_) (fun hm => ?_)
    · rw [hb] at this; cases this
    · obtain ⟨o', _, _, e', _⟩ := F.ns
      rw [← e, hb] at e'; cases e'
    · obtain ⟨_, _, v, o', e', _⟩ := S'.cells x b e
      rw [hb] at e'; cases e'
    · obtain ⟨_, _, o', e', _⟩ := S'.mov b hm
      rw [hb] at e'; cases e'
theorem newList_own {s : Shared} {vs : List Value} {ds : List PyData} {Q : Value → Shared → Prop} {E : Value → Shared → Prop} (S : St W A fe lev g M ρ s.heap) (r : ReadsAll s.heap vs ds []) (hsz : vs.length ≤ sizeLine)
    (k : ∀ a h', s.heap.get? a = none → Le s.heap h' → St W A fe lev g (a :: M) ρ h' → EntIs W (a :: M) h' (.ref a) (.own a ds) → Q (.ref a) { s with heap := h' }) : wpAny (model W.prog W.w) A (newList vs) Q E s := by
  refine wpAny_newObj_type (T := "list") ?_ (by show vs.toArray.size ≤ sizeLine; rw [List.size_toArray]; exact hsz)
  have hn : s.heap.get? s.heap.objs.size = none := Heap.get?_none_of_le (Nat.le_refl _)
  have lp := Le.push s.heap { cls := .type "list", data := .seq vs.toArray 0 }
  have pl : (s.heap.push { cls := .type "list", data := .seq vs.toArray 0 }).PlainList s.heap.objs.size vs.toArray := ⟨0, Heap.get?_push_size _ rfl⟩
  exact k _ _ hn lp (S.grow lp hn pl) ⟨rfl, .head _, _, pl, ReadsAll.keeps lp r⟩
theorem xe_list0 {pos : Pos} : Xe W A fe lev g M ρ (.List [] pos) (fun M' ρ' e => ∃ a, M' = a :: M ∧ ρ' = ρ ∧ e = .own a []) := by
  intro s Q E S k
  refine List_ (spliced_none (newList_own S .nil (Nat.zero_le _) fun a h' hn l S' en => ?_))
  exact k _ h' s.toks _ ρ _ ⟨a, rfl, rfl, rfl⟩ ⟨fun b hb => .tail _ hb, fun b hb => by
    rcases List.mem_cons.mp hb with rfl | hb
    · exact .inr hn
    · exact .inl hb⟩ (Fp.of l) S' en
theorem xe_list1 {e : Expr} {pos : Pos} {PP : Int → Rho → Prop} (x : Xi W A fe lev g M ρ e PP) (he : starEach [e] fe = (false, eval e fe) :: starEach [] fe) :
    Xe W A fe lev g M ρ (.List [e] pos) (fun M' ρ' ent => ∃ a i, M' = a :: M ∧ PP i ρ' ∧ ent = .own a [.int i]) := by
  intro s Q E S k
  refine List_ (spliced_more (x s _ E S fun i t ρ₁ h₁ tk₁ p₁ f₁ S₁ => ?_) he)
  refine spliced_none (newList_own (s := { s with heap := h₁, toks := tk₁ }) S₁ (.cons (.int i t) .nil) (Nat.le_of_ble_eq_true rfl) fun a h' hn l S' en => ?_)
  exact k _ h' tk₁ _ ρ₁ _ ⟨a, i, rfl, p₁, rfl⟩ ⟨fun b hb => .tail _ hb, fun b hb => by
    rcases List.mem_cons.mp hb with rfl | hb
    · exact .inr (none_fp S₁ f₁ hn)
    · exact .inl hb⟩ (f₁.trans (Fp.of l)) S' en

theorem ents_vals {vs : List Value} {ds : List PyData} (S : St W A fe lev g M ρ h) (r : RdAll h vs ds) (o : ∀ d ∈ ds, Off M ρ d) : EntsAre W M h vs (ds.map .val) := by
  induction ds generalizing vs with
  | nil => cases vs with
    | nil => exact .nil
    | cons v vs => have := r.length; simp at this
  | cons d ds ih => cases vs with
    | nil => have := r.length; simp at this
    | cons v vs => exact .cons (S.off r.inv.1 (o d (.head _))) (ih r.inv.2 fun d hd => o d (.tail _ hd))
theorem xs_val {e : Expr} {es : List Expr} {d : PyData} {PP : List Addr → Rho → List Ent → Prop} (x : Ev W A fe lev fe (vals ρ) e d) (o : Off M ρ d) (y : Xs W A fe lev g M ρ es fun M' ρ' ents => PP M' ρ' (.val d :: ents))
    (he : starEach (e :: es) fe = (false, eval e fe) :: starEach es fe) : Xs W A fe lev g M ρ (e :: es) PP := by
  intro pos s Q E S k
  refine spliced_more (x s _ E S.ok S.vars fun v h₁ tk₁ l₁ r₁ => ?_) he
  have S₁ := S.up l₁
  have ro := S₁.off r₁ o
  refine y pos { s with heap := h₁, toks := tk₁ } _ E S₁ fun vs h' tk M' ρ' ents p gr f S' en => ?_
  exact k (v :: vs) h' tk M' ρ' _ p ⟨gr.1, fun b hb => (gr.2 b hb).imp id fun hn => none_fp S₁ (Fp.of l₁) hn⟩ ((Fp.of l₁).trans f) S' (.cons (ro.grown S₁ gr f) en)
theorem xs_int {e : Expr} {es : List Expr} {PP : List Addr → Rho → List Ent → Prop} (x : Xi W A fe lev g M ρ e fun i ρ₁ => Xs W A fe lev g M ρ₁ es fun M' ρ' ents => PP M' ρ' (.val (.int i) :: ents))
    (he : starEach (e :: es) fe = (false, eval e fe) :: starEach es fe) : Xs W A fe lev g M ρ (e :: es) PP := by
  intro pos s Q E S k
  refine spliced_more (x s _ E S fun i t ρ₁ h₁ tk₁ p₁ f₁ S₁ => ?_) he
  refine p₁ pos { s with heap := h₁, toks := tk₁ } _ E S₁ fun vs h' tk M' ρ' ents p gr f S' en => ?_
  exact k _ h' tk M' ρ' _ p ⟨gr.1, fun b hb => (gr.2 b hb).imp id fun hn => none_fp S₁ f₁ hn⟩ (f₁.trans f) S' (.cons ⟨[], .int i t, fun _ h => nomatch h⟩ en)
theorem xs_ent {e : Expr} {es : List Expr} {P₁ : List Addr → Rho → Ent → Prop} {PP : List Addr → Rho → List Ent → Prop} (x : Xe W A fe lev g M ρ e P₁)
    (y : ∀ M' ρ' ent, P₁ M' ρ' ent → ∃ ds, Evs W A fe lev fe (vals ρ') es ds ∧ (∀ d ∈ ds, Off M' ρ' d) ∧ PP M' ρ' (ent :: ds.map .val))
    (he : starEach (e :: es) fe = (false, eval e fe) :: starEach es fe) : Xs W A fe lev g M ρ (e :: es) PP := by
  intro pos s Q E S k
  refine spliced_more (x s _ E S fun v h₁ tk₁ M' ρ' ent p₁ gr f₁ S₁ en => ?_) he
  obtain ⟨ds, evs, off, pp⟩ := y M' ρ' ent p₁
  refine evs pos { s with heap := h₁, toks := tk₁ } _ E S₁.ok S₁.vars fun vs h' tk l r => ?_
  have S' := S₁.up l
  exact k _ h' tk M' ρ' _ pp gr (f₁.trans (Fp.of l)) S' (.cons (en.up l) (ents_vals S' r off))

theorem ex_swapX {elts es : List Expr} {k k' : Nat} {tpos vpos pos : Pos} {rest : List Stmt} {PP : List Addr → Rho → List Ent → Prop} (x : Xs W A fe lev g M ρ es PP)
    (y : ∀ M' ρ' ents, PP M' ρ' ents → (namesOf elts).length = ents.length ∧ StosE fe ρ' ((namesOf elts).zip ents).reverse ∧ Ex W A fe lev g M' (pushRE (namesOf elts) ents ρ') rest (fun _ => False) (fun ρ'' d => Rt (keepOf M ρ'') d))
    (hsw : swapsWithSole [.Tuple elts k tpos] (.Tuple es k' vpos) pos.line fe = pure false) (hw : swappedStores [.Tuple elts k tpos] (.Tuple es k' vpos) fe = pure (some (namesOf elts))) (hsz : (namesOf elts).length ≤ 100) :
    Ex W A fe lev g M ρ (.Assign [.Tuple elts k tpos] (.Tuple es k' vpos) pos :: rest) Nx Rt := by
  intro s Q E S _ kR
  refine wpAny_execs_cons ?_
  rw [arm_exec_Assign]
  refine wpAny_bind (wpAny_standAt ?_)
  rw [hsw]
  refine wpAny_bind (wpAny_pure ?_)
  rw [if_neg (by decide)]
  refine wpAny_bind (Tuple_ (x vpos s _ E S fun vs h₁ tk₁ M' ρ' ents pp gr f₁ S₁ en => ?_))
  obtain ⟨hlen, hst, ex⟩ := y M' ρ' ents pp
  have e0 := en.length
  have hk : vs.length ≤ sizeLine := by
    have : (100 : Nat) ≤ sizeLine := by decide
    omega
  refine wpAny_newObj_type (T := "tuple") ?_ (by show vs.toArray.size ≤ sizeLine; rw [List.size_toArray]; exact hk)
  have lp := Le.push h₁ { cls := .type "tuple", data := .seq vs.toArray 0 }
  have S₂ := S₁.up lp
  have ht : IsTup (h₁.push { cls := .type "tuple", data := .seq vs.toArray 0 }) h₁.objs.size vs.toArray := ⟨_, Heap.get?_push_size _ rfl, rfl, _, rfl⟩
  rw [hw]
  refine wpAny_bind (wpAny_pure ?_)
  unfold assignStores
  dsimp only
  refine wpAny_bind (wpAny_rule (wpAny_bind ?_))
  have e2 : (namesOf elts).length = vs.toArray.size := by rw [List.size_toArray, e0, hlen]
  rw [e2]
  refine wpAny_unpackItems_tuple (s := { s with heap := h₁.push { cls := .type "tuple", data := .seq vs.toArray 0 }, toks := tk₁ }) S.hand ht fun h'' ext => ?_
  have l2 := le_of_ext ext
  have S₃ := S₂.up l2
  have e1 : ((namesOf elts).reverse.map fun n => bindName fe n) = ((namesOf elts).zip ents).reverse.map fun p => bindName fe p.1 := by
    have : (namesOf elts) = ((namesOf elts).zip ents).map (·.1) := (List.map_fst_zip (by omega)).symm
    conv => lhs; rw [this]
    rw [← List.map_reverse, List.map_map]; rfl
  rw [e1]
  have e3 : (((namesOf elts).zip ents).reverse.map (·.2)) = ents.reverse := by rw [List.map_reverse, List.map_snd_zip (by omega)]
  refine wpAny_bind (store_allE (s := { s with heap := h'', toks := tk₁ }) S₃ hst (by rw [e3]; exact (en.map fun v e q => (q.up lp).up l2).reverse) fun h3 tk3 f3 S4 => ?_)
  refine wpAny_pure ?_
  rw [← pushRE_eq] at S4
  exact ex { s with heap := h3, toks := tk3 } _ _ S4 (fun _ _ _ h => h.elim) fun v d ρ'' h4 tk4 rt S5 rd => kR v d (keepOf M ρ'') h4 tk4 rt (S5.shrink gr.1) rd
theorem ex_setX {y : Str} {py pos : Pos} {e : Expr} {rest : List Stmt} {PP : List Addr → Rho → Ent → Prop} (x : Xe W A fe lev g M ρ e PP)
    (k : ∀ M' ρ' ent, PP M' ρ' ent → Nm fe ρ' y ∧ Ex W A fe lev g M' ((y, ent) :: ρ') rest (fun _ => False) (fun ρ'' d => Rt (keepOf M ρ'') d)) (hs : swapsWith e (some (.Name y py)) pos.line fe = pure false) :
    Ex W A fe lev g M ρ (.Assign [.Name y py] e pos :: rest) Nx Rt := by
  intro s Q E S _ kR
  refine wpAny_execs_cons (wpAny_Assign_Name (x s _ E S fun v h₁ tk₁ M' ρ' ent pp gr f₁ S₁ en => ?_) hs)
  obtain ⟨n, ex⟩ := k M' ρ' ent pp
  refine S₁.store (s := { s with heap := h₁, toks := tk₁ }) (e := ent) n.kind en n.new n.h1 n.h2 fun h₂ tk₂ f₂ S₂ => ?_
  exact ex { s with heap := h₂, toks := tk₂ } _ _ S₂ (fun _ _ _ h => h.elim) fun v d ρ'' h4 tk4 rt S5 rd => kR v d (keepOf M ρ'') h4 tk4 rt (S5.shrink gr.1) rd
end
theorem readsAll_setLast {h : Heap} : ∀ {vs : List Value} {ds : List PyData} {d₀ d : PyData} {v : Value}, ReadsAll h vs (ds ++ [d₀]) [] → Reads h v d [] → ReadsAll h (vs.set (vs.length - 1) v) (ds ++ [d]) []
  | [], [], _, _, _, q, _ => nomatch q
  | [], _ :: _, _, _, _, q, _ => nomatch q
  | [u], [], _, _, _, _, r => .cons r .nil
  | _ :: _ :: _, [], _, _, _, q, _ => by
    have : RdAll h _ _ := ⟨_, q, fun _ h => nomatch h⟩
    have := this.length
    simp at this
  | [u], _ :: _, _, _, _, q, _ => by
    have : RdAll h _ _ := ⟨_, q, fun _ h => nomatch h⟩
    have := this.length
    simp at this
  | u :: w :: vs, e :: ds, d₀, d, v, q, r => by
    obtain ⟨q1, q2⟩ := readsAll_nil_inv q
    have := readsAll_setLast (vs := w :: vs) (ds := ds) q2 r
    have e1 : (u :: w :: vs).set ((u :: w :: vs).length - 1) v = u :: (w :: vs).set ((w :: vs).length - 1) v := by simp
    rw [e1]
    exact .cons q1 this

section
variable {W : Wd} {A : Around} {fe : Env} {lev : Nat} {g : Heap} {M : List Addr} {ρ ρ' : Rho} {Nx : Rho → Prop} {Rt : Rho → PyData → Prop} {h h' : Heap}
theorem own_name {x : Str} {np : Pos} {a : Addr} {ds : List PyData} {s : Shared} {Q : Value → Shared → Prop} {E : Value → Shared → Prop} (S : St W A fe lev g M ρ s.heap) (hm : (x, Ent.own a ds) ∈ ρ) (k : Q (.ref a) s) :
    wpAny (model W.prog W.w) A (eval (.Name x np) fe) Q E s := by
  obtain ⟨v, hv, rfl, _⟩ := S.ents _ hm
  obtain ⟨h1, h2, h3⟩ := hv
  rcases h3 with ⟨b1, m, b2, b3⟩ | ⟨b1 | b1, c, b2, b3⟩
  · exact wpAny_Name (wpAny_loadName_local S.kind b1 b2 b3 k) h1
  · exact wpAny_Name (wpAny_loadName_cell S.kind b1 b2 b3 k) h1
  · exact wpAny_Name (wpAny_loadName_free S.kind b1 b2 b3 k h2) h1
theorem src_name {x : Str} {np : Pos} {a : Addr} {n : Nat × Addr} {s : Shared} {Q : Value → Shared → Prop} {E : Value → Shared → Prop} (S : St W A fe lev g M ρ s.heap) (hm : (x, Ent.src a n) ∈ ρ) (k : Q (.ref a) s) :
    wpAny (model W.prog W.w) A (eval (.Name x np) fe) Q E s := by
  obtain ⟨v, hv, rfl, _⟩ := S.ents _ hm
  obtain ⟨h1, h2, h3⟩ := hv
  rcases h3 with ⟨b1, m, b2, b3⟩ | ⟨b1 | b1, c, b2, b3⟩
  · exact wpAny_Name (wpAny_loadName_local S.kind b1 b2 b3 k) h1
  · exact wpAny_Name (wpAny_loadName_cell S.kind b1 b2 b3 k) h1
  · exact wpAny_Name (wpAny_loadName_free S.kind b1 b2 b3 k h2) h1
theorem ex1_setLast {x : Str} {np kp up sp pos : Pos} {kk : Nat} {value : Expr} {a : Addr} {ds : List PyData} {d₀ d : PyData} (hm : (x, Ent.own a (ds ++ [d₀])) ∈ ρ) (he : Ev W A fe lev fe (vals ρ) value d) (hi : imm d = true)
    (hs : swapsWith value (some (.Subscript (.Name x np) (.UnaryOp .USub (.Constant (.int 1) kk kp) up) sp)) pos.line fe = pure false) :
    Ex1 W A fe lev g M ρ (.Assign [.Subscript (.Name x np) (.UnaryOp .USub (.Constant (.int 1) kk kp) up) sp] value pos) (· = (x, .own a (ds ++ [d])) :: dropOwn ρ) Rt := by
  intro s Q E S k _
  refine wpAny_Assign_Subscript (he s _ E S.ok S.vars fun v h₁ tk l r => ?_) hs
  have S1 := S.up l
  refine own_name (s := { s with heap := h₁, toks := tk }) S1 hm ?_
  refine ev_neg (W := W) (A := A) (fe := fe) (lev := lev) (ρ := vals ρ) (i := 1) ev_int _ _ E S1.ok S1.vars fun i h₂ tk₂ l₂ r₂ => ?_
  obtain ⟨t, rfl⟩ := r₂.int
  have S2 := S1.up l₂
  obtain ⟨_, _, _, haM, vs0, p0, r0⟩ := S2.ents _ hm
  have hlen : vs0.size = ds.length + 1 := by
    have : RdAll h₂ vs0.toList (ds ++ [d₀]) := ⟨_, r0, fun _ h => nomatch h⟩
    simpa using this.length
  refine setItem_last (s := { s with heap := h₂, toks := tk₂ }) p0 (by omega) fun h₃ p3 s3 => ?_
  refine k _ h₃ tk₂ rfl (fun b o e _ _ hb => s3.extBut b o (fun e' => hb (e' ▸ haM)) (l₂ _ _ (l _ _ e))) (S2.own hm p3 s3 ?_)
  have e1 : (vs0.setIfInBounds (vs0.size - 1) v).toList = vs0.toList.set (vs0.toList.length - 1) v := by simp
  rw [e1]
  exact readsAll_setLast r0 (Reads.keeps l₂ (rd_imm r hi))

noncomputable def pb (f : List (Int × Int)) (lo hi : Int) : List (Int × Int) := match f.getLast? with
  | none => f ++ [(lo, hi)]
  | some (a, b) => if lo ≤ b + 1 then (if hi > b then f.dropLast ++ [(a, hi)] else f) else f ++ [(lo, hi)]
theorem pb_snoc {f : List (Int × Int)} {a b lo hi : Int} : pb (f ++ [(a, b)]) lo hi = if lo ≤ b + 1 then (if hi > b then f ++ [(a, hi)] else f ++ [(a, b)]) else f ++ [(a, b)] ++ [(lo, hi)] := by
  unfold pb
  rw [List.getLast?_concat]
  simp only [List.dropLast_concat]
noncomputable def PutAt (W : Wd) : Prop := ∀ (A : Around) (L c : Addr) (cd : Value) (g : Heap) (lev : Nat) (a : Addr) (f : List (Int × Int)) (lo hi : Int), f.length ≤ 1000 →
  Ex W A (envOfC r_put_behind.name r_put_behind.scope L c cd) lev g [a] [("found", .own a (f.map seg)), ("low", .val (.int lo)), ("high", .val (.int hi))] r_put_behind.body
    (fun ρ' => (("found" : Str), Ent.own a ((pb f lo hi).map seg)) ∈ ρ') (fun _ _ => False)
theorem ex1_put {x : Str} {np xp cpos pos : Pos} {e₁ e₂ : Expr} {a : Addr} {f : List (Int × Int)} {lo hi : Int} (put : PutAt W) (hf : f.length ≤ 1000) (hlev : 0 < lev) (hm : (x, Ent.own a (f.map seg)) ∈ ρ) (h1 : Ev W A fe lev fe (vals ρ) e₁ (.int lo)) (h2 : Ev W A fe lev fe (vals ρ) e₂ (.int hi))
    (hk : fe.kindOf "put_behind" = some .globalImplicit) (a0 : starEach [.Name x xp, e₁, e₂] fe = (false, eval (.Name x xp) fe) :: starEach [e₁, e₂] fe) (a1 : starEach [e₁, e₂] fe = (false, eval e₁ fe) :: starEach [e₂] fe) (a2 : starEach [e₂] fe = (false, eval e₂ fe) :: starEach [] fe)
    (hint : interactive fe = false) (hsw : swapsWith (.Call (.Name "put_behind" np) [.Name x xp, e₁, e₂] [] cpos) none pos.line fe = pure false) :
    Ex1 W A fe lev g M ρ (.Expr (.Call (.Name "put_behind" np) [.Name x xp, e₁, e₂] [] cpos) pos) (· = (x, .own a ((pb f lo hi).map seg)) :: dropOwn ρ) Rt := by
  intro s Q E S k _
  refine wpAny_Expr ?_ hint hsw
  have T := S.ok.top
  obtain ⟨c, o, pm, code, doc, g1, g2, g3, g4⟩ := top_fn T S.knows (r := r_put_behind) recIs_mem
  refine PyProof.Rows.Call_ (Name_function_global S.kind hk (loadGlobal_global (by rw [S.globs]; exact T.g) g1 ?_) (by decide))
  refine callWith_function (o := o) (fd := docDef r_put_behind.name r_put_behind.params r_put_behind.body r_put_behind.scope pm code doc) ?_
  have args : ∀ (Q' : List Value → Shared → Prop) (E' : Value → Shared → Prop), (∀ v₁ v₂ h₂ t₂, Le s.heap h₂ → Rd h₂ v₁ (.int lo) → Rd h₂ v₂ (.int hi) → Q' [.ref a, v₁, v₂] { s with heap := h₂, toks := t₂ }) →
      wpAny (model W.prog W.w) A (spliced (backTo cpos (starEach [.Name x xp, e₁, e₂] fe))) Q' E' s := fun Q' E' kk => by
    refine spliced_more (own_name S hm ?_) a0
    refine spliced_more (h1 s _ E' S.ok S.vars fun v₁ h₁ t₁ l₁ r₁ => ?_) a1
    have S1 := S.up l₁
    refine spliced_more (h2 { s with heap := h₁, toks := t₁ } _ E' S1.ok S1.vars fun v₂ h₂ t₂ l₂ r₂ => ?_) a2
    exact spliced_none (kk v₁ v₂ h₂ t₂ (l₁.trans l₂) (r₁.up l₂) r₂)
  rw [a0] at args ⊢
  refine evalArgs_plain (args _ E fun v₁ v₂ h₂ t₂ l₂ r₁ r₂ => ⟨⟨l₂ _ _ g2, g3⟩, ?_⟩)
  have S2 := S.up l₂
  obtain ⟨_, _, _, haM, vs0, p0, r0⟩ := S2.ents _ hm
  obtain ⟨ag, aL, _⟩ := S2.mov a haM
  obtain ⟨A₀, base, outer, B, hA⟩ := S.ctx
  obtain ⟨m, F⟩ := S2.fr
  obtain ⟨n0, o0⟩ := p0
  refine wpAny_call (enter (s := { s with heap := h₂, toks := t₂ }) def_put_behind S.knows S.hand S.kind S.depth S.units B F hA S.frame S.top rfl g1 hlev (hid := [a]) (fun b hb => ?_) fun L' c' cd' h₃ tk₃ l₃ mk => ?_)
  · obtain rfl := List.mem_singleton.mp hb
    exact ⟨⟨_, o0⟩, ag, aL⟩
  · have S3 := mk [("found", .own a (f.map seg)), ("low", .val (.int lo)), ("high", .val (.int hi))] (fun p hp => ?_) (fun b hb => ?_)
    · refine put (A.deeper _) L' c' cd' _ _ a f lo hi hf { s with heap := h₃, toks := tk₃ } _ _ S3 (fun ρ' h₄ tk₄ hN f₄ S4 => ?_) fun v d ρ' h tk hf => hf.elim
      have keep : ∀ b o, b ≠ a → h₂.get? b = some o → h₄.get? b = some o := fun b o hb e => by
        exact S4.le b o (hideAll_get _ e (by simpa using hb))
      obtain ⟨_, _, _, _, vs4, p4, r4⟩ := S4.ents _ hN
      have S5 := S2.own' hm p4 keep r4
      exact k _ h₄ tk₄ rfl (fun b o e _ _ hb => keep b o (fun e' => hb (e' ▸ haM)) (l₂ _ _ e)) S5
    · simp only [List.mem_cons, List.not_mem_nil, or_false] at hp
      rcases hp with rfl | rfl | rfl
      · exact ⟨_, .head _, rfl, .head _, vs0, ⟨n0, l₃ _ _ o0⟩, ReadsAll.keeps l₃ r0⟩
      · exact ⟨_, .tail _ (.head _), (r₁.up l₃).offI rfl⟩
      · exact ⟨_, .tail _ (.tail _ (.head _)), (r₂.up l₃).offI rfl⟩
    · obtain rfl := List.mem_singleton.mp hb
      exact ⟨_, l₃ _ _ o0, fun v (h : Data.seq vs0 n0 = Data.cell v) => (nomatch h), fun (h : Value.type "list" = Value.type "tuple") => by simp at h⟩
end
theorem ev_lastHi {W : Wd} {A : Around} {fe : Env} {lev : Nat} {env : Env} {σ : List (Str × PyData)} {l : List (Int × Int)} {a b : Int} {x : Str} {np kp up ip p1 p2 : Pos} {k1 k2 : Nat} (hm : (x, PyData.list ((l ++ [(a, b)]).map seg)) ∈ σ) :
    Ev W A fe lev env σ (.Subscript (.Subscript (.Name x np) (.UnaryOp .USub (.Constant (.int 1) k1 kp) up) p1) (.Constant (.int 1) k2 ip) p2) (.int b) := by
  refine ev_itemT (l := [.int a, .int b]) (j := 1) (k := 1) ?_ ev_int rfl rfl (by decide) (by decide) fun _ _ => rfl
  refine ev_itemLneg (l := (l ++ [(a, b)]).map seg) (k := -1) (ev_name hm) (ev_neg ev_int) (by decide) ?_ ?_ (by decide) fun _ _ => rfl
  · simp only [List.length_map, List.length_append, List.length_cons, List.length_nil]; omega
  · have e : (-1 + (((l ++ [(a, b)]).map seg).length : Int)).toNat = l.length := by simp only [List.length_map, List.length_append, List.length_cons, List.length_nil]; omega
    rw [e]; simp [seg]
theorem ev_lastLo {W : Wd} {A : Around} {fe : Env} {lev : Nat} {env : Env} {σ : List (Str × PyData)} {l : List (Int × Int)} {a b : Int} {x : Str} {np kp up ip p1 p2 : Pos} {k1 k2 : Nat} (hm : (x, PyData.list ((l ++ [(a, b)]).map seg)) ∈ σ) :
    Ev W A fe lev env σ (.Subscript (.Subscript (.Name x np) (.UnaryOp .USub (.Constant (.int 1) k1 kp) up) p1) (.Constant (.int 0) k2 ip) p2) (.int a) := by
  refine ev_itemT (l := [.int a, .int b]) (j := 0) (k := 0) ?_ ev_int rfl rfl (by decide) (by decide) fun _ _ => rfl
  refine ev_itemLneg (l := (l ++ [(a, b)]).map seg) (k := -1) (ev_name hm) (ev_neg ev_int) (by decide) ?_ ?_ (by decide) fun _ _ => rfl
  · simp only [List.length_map, List.length_append, List.length_cons, List.length_nil]; omega
  · have e : (-1 + (((l ++ [(a, b)]).map seg).length : Int)).toNat = l.length := by simp only [List.length_map, List.length_append, List.length_cons, List.length_nil]; omega
    rw [e]; simp [seg]
theorem ts_lenPos {W : Wd} {A : Around} {fe : Env} {lev : Nat} {env : Env} {σ : List (Str × PyData)} {l : List PyData} {x : Str} {np xp kp cp pos : Pos} {k : Nat} (hm : (x, PyData.list l) ∈ σ) (hl : l.length ≤ sizeLine) (hk : env.kindOf "len" = some .globalImplicit) :
    Ts W A fe lev env σ (.Compare (.Call (.Name "len" np) [.Name x xp] [] cp) [.Gt] [.Constant (.int 0) k kp] pos) (decide ((l.length : Int) > 0)) := by
  refine ts_cmp (d₁ := .int (l.length : Int)) ?_ ev_int co_gt rfl
  exact ev_callB (id := "len") (ds := [.list l]) hk (by decide) (by boot_by_name) (evs_cons (ev_name hm) evs_nil rfl) (cl_len hl)
theorem put_at {W : Wd} : ∀ (A : Around) (L c : Addr) (cd : Value) (g : Heap) (lev : Nat) (a : Addr) (f : List (Int × Int)) (lo hi : Int), f.length ≤ 1000 →
  Ex W A (envOfC r_put_behind.name r_put_behind.scope L c cd) lev g [a] [("found", .own a (f.map seg)), ("low", .val (.int lo)), ("high", .val (.int hi))] r_put_behind.body
    (fun ρ' => (("found" : Str), Ent.own a ((pb f lo hi).map seg)) ∈ ρ') (fun _ _ => False) := by
  intro A L c cd g lev a f lo hi hf
  refine ex_body ?_ rfl
  have h1000 : (1000 : Nat) < sizeLine := by decide
  rcases List.eq_nil_or_concat f with rfl | ⟨l, ⟨u, b⟩, rfl⟩
  · refine ex_ifTail (b := false && false) ?_ (fun h => by simp at h) fun _ => ?_
    · exact ts_bool (tsa_and (ts_lenPos (.head _) (Nat.zero_le _) rfl) fun h => by simp at h)
    · refine ex_cons (ex1_append (a := a) (ds := []) (d := .tuple [.int lo, .int hi]) (.head _) ?_ rfl (by decide)) fun ρ' e => ex_nil ?_
      · lcg_src
      · rw [e]
        exact .head _
  · rw [List.concat_eq_append] at hf ⊢
    have hl : l.length + 1 ≤ 1000 := by simpa using hf
    have hsz : ((l ++ [(u, b)]).map seg).length ≤ sizeLine := by simp only [List.length_map, List.length_append, List.length_cons, List.length_nil]; omega
    have hpos : decide ((((l ++ [(u, b)]).map seg).length : Int) > 0) = true := by
      simp only [List.length_map, List.length_append, List.length_cons, List.length_nil, decide_eq_true_eq]; omega
    refine ex_ifTail (b := true && (decide (lo ≤ b + 1) && true)) ?_ (fun h => ?_) fun h => ?_
    · refine ts_bool (tsa_and ?t1 fun _ => tsa_and (ts_cmp ?_ (ev_bin (ev_lastHi (l := l) (a := u) (.head _)) ev_int bo_add) co_le rfl) fun _ => tsa_and_nil)
      case t1 => rw [← hpos]; exact ts_lenPos (.head _) hsz rfl
      lcg_src
    · have h' : lo ≤ b + 1 := by simpa using h
      refine ex_ifTail (b := decide (hi > b)) ?_ (fun h => ?_) fun h => ?_
      · refine ts_cmp ?_ (ev_lastHi (l := l) (a := u) (.head _)) co_gt rfl
        lcg_src
      · have e : (l ++ [(u, b)]).map seg = l.map seg ++ [seg (u, b)] := by simp
        rw [e]
        refine ex_cons (ex1_setLast (a := a) (ds := l.map seg) (d₀ := seg (u, b)) (d := .tuple [.int u, .int hi]) (.head _) ?_ rfl rfl) fun ρ' e' => ex_nil ?_
        · refine ev_tuple (evs_cons (ev_lastLo (l := l) (a := u) (b := b) ?_) (evs_cons ?_ evs_nil rfl) rfl) (Nat.le_of_ble_eq_true rfl)
          · rw [e]; exact .head _
          · lcg_src
        · rw [e', pb_snoc, if_pos h', if_pos (of_decide_eq_true h)]
          simp only [List.map_append, List.map_cons, List.map_nil]
          exact .head _
      · refine ex_nil ?_
        rw [pb_snoc, if_pos h', if_neg (of_decide_eq_false h)]
        exact .head _
    · have h' : ¬ lo ≤ b + 1 := by simpa using h
      refine ex_cons (ex1_append (a := a) (ds := (l ++ [(u, b)]).map seg) (d := .tuple [.int lo, .int hi]) (.head _) ?_ rfl ?_) fun ρ' e => ex_nil ?_
      · lcg_src
      · simp only [List.length_map, List.length_append, List.length_cons, List.length_nil]; omega
      · rw [e, pb_snoc, if_neg h']
        have e2 : (l ++ [(u, b)]).map seg ++ [.tuple [.int lo, .int hi]] = (l ++ [(u, b)] ++ [(lo, hi)]).map seg := by simp [seg]
        rw [e2]
        exact .head _
theorem intsAre_of_rd {h : Heap} : ∀ {vs : List Value} {ns : List Int}, RdAll h vs (ns.map .int) → IntsAre vs ns
  | [], [], _ => .nil
  | [], _ :: _, r => by have := r.length; simp at this
  | _ :: _, [], r => by have := r.length; simp at this
  | v :: vs, n :: ns, r => by
    obtain ⟨t, rfl⟩ := r.inv.1.int
    exact .cons n t (intsAre_of_rd r.inv.2)
theorem rd_of_intsAre {h : Heap} : ∀ {vs : List Value} {ns : List Int}, IntsAre vs ns → RdAll h vs (ns.map .int)
  | _, _, .nil => RdAll.nil
  | _, _, .cons n t r => RdAll.cons (Rd.ofInt n t) (rd_of_intsAre r)
noncomputable def fromV (ns : List Int) : List (Int × Int) := ns.foldl (fun f v => pb f v v) []
theorem pb_len {f : List (Int × Int)} {a b : Int} : (pb f a b).length ≤ f.length + 1 := by
  rcases List.eq_nil_or_concat f with rfl | ⟨l, ⟨u, v⟩, rfl⟩
  · exact Nat.le_refl _
  · rw [List.concat_eq_append, pb_snoc]
    split
    · split <;> simp
    · simp
theorem fromV_snoc {ns : List Int} {v : Int} : fromV (ns ++ [v]) = pb (fromV ns) v v := by simp [fromV]
theorem fromV_len : ∀ (k : Nat) (ns : List Int), ns.length = k → (fromV ns).length ≤ k
  | 0, ns, h => by
    obtain rfl := List.length_eq_zero_iff.mp h
    exact Nat.le_refl _
  | k + 1, ns, h => by
    rcases List.eq_nil_or_concat ns with rfl | ⟨l, v, rfl⟩
    · simp at h
    · rw [List.concat_eq_append] at h ⊢
      rw [fromV_snoc]
      have := fromV_len k l (by simpa using h)
      have := pb_len (f := fromV l) (a := v) (b := v)
      omega
section
variable {W : Wd} {A : Around} {fe : Env} {lev : Nat} {g : Heap} {M : List Addr} {ρ : Rho}
theorem sorted_new {x : Str} {np xp pos : Pos} {ns : List Int} (hm : (x, PyData.list (ns.map .int)) ∈ vals ρ) (hk : fe.kindOf "sorted" = some .globalImplicit) (hl : ns.length < 64) (hs : ns.Pairwise (· ≤ ·)) :
    ∀ (s : Shared) (Q : Value → Shared → Prop) (E : Value → Shared → Prop), St W A fe lev g M ρ s.heap →
      (∀ (a : Addr) (h' : Heap) (tk : Nat) (vs : Array Value), Le s.heap h' → a ∉ M → h'.IsList a vs → Items M h' vs (ns.map .int) → vs.size = (ns.map PyData.int).length → Q (.ref a) { s with heap := h', toks := tk }) →
      wpAny (model W.prog W.w) A (eval (.Call (.Name "sorted" np) [.Name x xp] [] pos) fe) Q E s := by
  intro s Q E S k
  have ok := S.ok
  have hv := S.vars
  have T := ok.top
  have hb : (Str.ofString "sorted") ∈ bnames := by decide +kernel
  have hboot : bootBuiltins (Str.ofString "sorted") = some (.builtin "sorted") := by boot_by_name
  refine PyProof.Rows.Call_ (Name_function_global hv.kind hk (loadGlobal_builtin (by rw [hv.globs]; exact T.g) (ok.knows.free _ hb) (by rw [hv.bltn]; exact T.b) ((T.builtins _ (by decide +kernel)).trans hboot) ?_) (by decide +kernel))
  refine PyProof.Rows.callWith_builtin1 (evs_cons (W := W) (A := A) (fe := fe) (lev := lev) (ev_name hm) evs_nil rfl pos s _ E ok hv fun vs h' tk l rr => ?_) rfl rfl
  obtain ⟨v, rfl, rv⟩ := rdAll1 rr
  obtain ⟨a, its, rfl, ha, hr⟩ := rv.list
  have hI := intsAre_of_rd hr
  have S' := S.up l
  refine sorted_ints (s := { s with heap := h', toks := tk }) (vs := its.toList) (by simpa using ha) hI (by rw [hr.length, List.length_map]; exact hl) fun out ns' hO hp hso => ?_
  obtain rfl : ns' = ns := hp.eq_of_pairwise (fun a b _ _ h1 h2 => Int.le_antisymm h1 h2) hso hs
  obtain ⟨n, e⟩ := sortedAll_at h' its.toList out
  have lso : Le h' (sortedAll h' its.toList out) := fun b o hb => sortedAll_old hb
  refine k _ _ tk out (l.trans lso) (fun hm => ?_) ⟨_, e, rfl, n, rfl⟩ (fun i v e => ?_) ?_
  · obtain ⟨_, _, o, e', _⟩ := S'.mov _ hm
    exact absurd (Heap.lt_size e') (Nat.not_lt.mpr (Nat.le_succ _))
  · obtain ⟨d, e', r'⟩ := (rd_of_intsAre hO (h := sortedAll h' its.toList out)).get' (j := i) (v := v) (by simpa using e)
    refine ⟨d, e', r'.offI ?_⟩
    obtain ⟨i', _, rfl⟩ := List.mem_map.mp (List.mem_of_getElem? e')
    rfl
  · have := (rd_of_intsAre hO (h := h')).length
    simpa using this
end
theorem from_values_fn {W : Wd} {ns : List Int} (hl : ns.length < 64) (hs : ns.Pairwise (· ≤ ·)) : Fn W 1 "from_values" [.list (ns.map .int)] (dom (fromV ns)) := by
  refine fn_intro r_from_values _ def_from_values rfl fun A L a' cd g lev hlev => ?_
  refine ex_body ?_ rfl
  refine ex_setX (xe_list0) ?_ rfl
  rintro M' ρ' ent ⟨a, rfl, rfl, rfl⟩
  refine ⟨by kas_types, ?_⟩
  refine ex_cons (N₁ := fun ρ' => ρ' = ([("found", .own a ((fromV ns).map seg)), ("numbers", .val (.list (ns.map .int)))] : Rho)) (Ex1.imp ?_ (fun _ _ h => h)
    (for_list (ds := ns.map .int) (fun pre ρ' => ∃ q : List Int, pre = q.map .int ∧ ρ' = ([("found", .own a ((fromV q).map seg)), ("numbers", .val (.list (ns.map .int)))] : Rho)) (sorted_new (.tail _ (.head _)) rfl hl hs) ?_ ?_ ?_)) ?_
  · rintro ρ' ⟨q, h1, h2⟩
    have inj : ∀ p p' : Int, PyData.int p = PyData.int p' → p = p' := fun p p' e => by cases e; rfl
    obtain rfl : ns = q := (List.map_inj_right (fun {x y} => inj x y)).mp h1
    exact h2
  · exact ⟨[], rfl, rfl⟩
  · rintro pre x post ρ' hds ⟨q, rfl, rfl⟩
    obtain ⟨q', r, hd, hq', hr⟩ := List.map_eq_append_iff.mp hds
    obtain ⟨v, r', rfl, rfl, _⟩ := List.map_eq_cons_iff.mp hr
    have inj : ∀ p p' : Int, PyData.int p = PyData.int p' → p = p' := fun p p' e => by cases e; rfl
    obtain rfl : q' = q := (List.map_inj_right (fun {x y} => inj x y)).mp hq'
    have hlen : (fromV q').length ≤ 1000 := by
      have := fromV_len _ q' rfl
      have : q'.length ≤ ns.length := by rw [hd]; simp
      omega
    refine ⟨_, tg_name (by kas_types), ?_⟩
    refine ex_cons (ex1_put (a := a) (f := fromV q') (lo := v) (hi := v) put_at hlen (by omega) (.tail _ (.head _)) (ev_name (.head _)) (ev_name (.head _)) rfl rfl rfl rfl rfl rfl) fun ρ' e => ex_nil ?_
    refine ⟨[("found", .own a ((fromV (q' ++ [v])).map seg)), ("numbers", .val (.list (ns.map .int)))], fun p hp => ?_, q' ++ [v], by simp, rfl⟩
    rw [e, fromV_snoc] at *
    simp only [List.mem_cons, List.not_mem_nil, or_false] at hp
    rcases hp with rfl | rfl
    · exact .head _
    · exact .tail _ (.tail _ (.head _))
  · exact fun _ => rfl
  · rintro ρ' rfl
    refine ex_ret (d := dom (fromV ns)) ?_ rfl
    have hlen := fromV_len _ ns rfl
    refine ev_callT (id := "tuple") (ds := [.list ((fromV ns).map seg)]) rfl (by decide) (by boot_by_name) ?_ (cl_tuple ?_)
    · exact evs_cons (ev_name (.head _)) evs_nil rfl
    · rw [List.length_map]
      have : (64 : Nat) ≤ sizeLine := by decide
      omega
section
variable {W : Wd} {A : Around} {fe : Env} {lev : Nat} {g : Heap} {M : List Addr} {ρ ρ' : Rho} {Nx : Rho → Prop} {Rt : Rho → PyData → Prop}
theorem ex_consS {st : Stmt} {rest : List Stmt} (ρt : Rho) (x : Ex1 W A fe lev g M ρ st (fun ρ' => ∀ p ∈ ρt, p ∈ ρ') Rt) (y : Ex W A fe lev g M ρt rest Nx Rt) : Ex W A fe lev g M ρ (st :: rest) Nx Rt :=
  ex_cons x fun _ h => y.sub h
theorem ex_reset {x : Str} {px pos : Pos} {e : Expr} {d : PyData} {rest : List Stmt} (ρ₁ : Rho) (he : Ev W A fe lev fe (vals ρ) e d) (hsub : ∀ p ∈ ρ₁, p ∈ ρ) (n : Nm fe ρ₁ x) (hM : Off M ρ d) (hs : swapsWith e (some (.Name x px)) pos.line fe = pure false)
    (k : Ex W A fe lev g M ((x, .val d) :: ρ₁) rest Nx Rt) : Ex W A fe lev g M ρ (.Assign [.Name x px] e pos :: rest) Nx Rt := by
  refine ex_seq (ρ₁ := (x, .val d) :: ρ₁) (fun s Q E S kk _ => ?_) k
  refine wpAny_Assign_Name (he s _ E S.ok S.vars fun v h' tk l r => ?_) hs
  exact ((S.up l).sub hsub).store (s := { s with heap := h', toks := tk }) (e := .val d) n.kind ((S.up l).off r hM) n.new n.h1 n.h2 fun h'' tk' f S' => kk _ h'' tk' rfl ((Fp.of l).trans f) S'
theorem sub_nil : ∀ p ∈ ([] : Rho), p ∈ ρ := fun _ h => nomatch h
theorem sub_cons {x : Str} {e : Ent} (a : (x, e) ∈ ρ) (b : ∀ p ∈ ρ', p ∈ ρ) : ∀ p ∈ (x, e) :: ρ', p ∈ ρ := fun p hp => by
  rcases List.mem_cons.mp hp with rfl | hp
  · exact a
  · exact b p hp
end
local macro_rules | `(tactic| keq_rows) => `(tactic| first | exact sub_nil | (refine' sub_cons ?a ?b; (case a => keq_rows); (case b => keq_rows)))
theorem idxAt {i n : Nat} (h : i < n) : seqIndex? (i : Int) n = some i := by
  unfold seqIndex?; simp; omega
noncomputable def meetK : List (Int × Int) → Int → List (Int × Int)
  | [], _ => []
  | (a, b) :: r, k => (if (if k > a then k else a) ≤ (if k < b then k else b) then [(if k > a then k else a, if k < b then k else b)] else []) ++ (if b < k then meetK r k else [])
theorem meetK_cons {a b k : Int} {r : List (Int × Int)} : meetK ((a, b) :: r) k = (if (if k > a then k else a) ≤ (if k < b then k else b) then [(if k > a then k else a, if k < b then k else b)] else []) ++ (if b < k then meetK r k else []) := rfl
theorem meetK_len : ∀ {d : List (Int × Int)} {k : Int}, (meetK d k).length ≤ d.length
  | [], _ => Nat.le_refl _
  | (a, b) :: r, k => by
    have := meetK_len (d := r) (k := k)
    unfold meetK
    rw [List.length_append]
    have h1 : ∀ (c : Prop) [Decidable c] (x : Int × Int), (if c then [x] else []).length ≤ 1 := fun c _ x => by split <;> simp
    have h2 : (if b < k then meetK r k else []).length ≤ r.length := by split <;> simp [this]
    have := h1 ((if k > a then k else a) ≤ (if k < b then k else b)) (if k > a then k else a, if k < b then k else b)
    simp only [List.length_cons]
    omega
noncomputable abbrev meetRho (a : Addr) (acc : List (Int × Int)) (i : Nat) (j : Int) (d : List (Int × Int)) (k : Int) : Rho :=
  [("found", .own a (acc.map seg)), ("i", .val (.int i)), ("j", .val (.int j)), ("d", .val (dom d)), ("e", .val (dom [(k, k)]))]
section
variable {W : Wd} {A : Around} {fe : Env} {lev : Nat} {env : Env} {σ : List (Str × PyData)}
theorem ev_segLo {x : Str} {np p0 p1 p2 : Pos} {ie : Expr} {k0 : Nat} {d : List (Int × Int)} {i : Nat} {a b : Int} (hm : (x, dom d) ∈ σ) (hi : Ev W A fe lev env σ ie (.int i)) (hd : d[i]? = some (a, b)) (hl : d.length ≤ 1000)
    (hs : ∀ o i, subscripted ie false o i = operate [o, i] (getItem o i)) : Ev W A fe lev env σ (.Subscript (.Subscript (.Name x np) ie p1) (.Constant (.int 0) k0 p0) p2) (.int a) := by
  have hlt : i < d.length := (List.getElem?_eq_some_iff.mp hd).1
  refine ev_itemT (l := [.int a, .int b]) (j := 0) (k := 0) ?_ ev_int rfl rfl (by decide) (by decide) fun _ _ => rfl
  refine ev_itemT (l := d.map seg) (j := i) (ev_name hm) hi (by rw [List.length_map]; exact idxAt hlt) (by rw [List.getElem?_map, hd]; rfl) (by omega) (by omega) hs
theorem ev_segHi {x : Str} {np p0 p1 p2 : Pos} {ie : Expr} {k0 : Nat} {d : List (Int × Int)} {i : Nat} {a b : Int} (hm : (x, dom d) ∈ σ) (hi : Ev W A fe lev env σ ie (.int i)) (hd : d[i]? = some (a, b)) (hl : d.length ≤ 1000)
    (hs : ∀ o i, subscripted ie false o i = operate [o, i] (getItem o i)) : Ev W A fe lev env σ (.Subscript (.Subscript (.Name x np) ie p1) (.Constant (.int 1) k0 p0) p2) (.int b) := by
  have hlt : i < d.length := (List.getElem?_eq_some_iff.mp hd).1
  refine ev_itemT (l := [.int a, .int b]) (j := 1) (k := 1) ?_ ev_int rfl rfl (by decide) (by decide) fun _ _ => rfl
  refine ev_itemT (l := d.map seg) (j := i) (ev_name hm) hi (by rw [List.length_map]; exact idxAt hlt) (by rw [List.getElem?_map, hd]; rfl) (by omega) (by omega) hs
end
theorem meet_fn {W : Wd} {d : List (Int × Int)} {k : Int} (hd : d.length ≤ 1000) : Fn W 0 "meet" [dom d, dom [(k, k)]] (dom (meetK d k)) := by
  refine fn_intro r_meet _ def_meet rfl fun A L a' cd g lev hlev => ?_
  refine ex_body ?_ rfl
  have h2000 : (2000 : Nat) ≤ sizeLine := by decide
  refine ex_swapX (PP := fun M' ρ' ents => ∃ a, M' = [a] ∧ ρ' = ([("d", .val (dom d)), ("e", .val (dom [(k, k)]))] : Rho) ∧ ents = [.own a [], .val (.int 0), .val (.int 0)]) (xs_ent xe_list0 ?_ rfl) ?_ rfl rfl (by decide)
  · rintro M' ρ' ent ⟨a, rfl, rfl, rfl⟩
    refine ⟨[.int 0, .int 0], by lcg_src, ?_, a, rfl, rfl, rfl⟩
    exact offs_cons (.inr (.inl rfl)) (offs_cons (.inr (.inl rfl)) offs_nil)
  rintro M' ρ' ents ⟨a, rfl, rfl, rfl⟩
  refine ⟨rfl, .cons (by kas_types) (.cons (by kas_types) (.cons (by kas_types) .nil)), ?_⟩
  refine ex_consS [("found", .own a ((meetK d k).map seg))] (ex1_while (fun n ρ' => ∃ (i j : Nat) (acc : List (Int × Int)), ρ' = meetRho a acc i j d k ∧ acc.length ≤ i + j ∧ i ≤ d.length ∧ ((j = 0 ∧ acc ++ meetK (d.drop i) k = meetK d k ∧ n = d.length - i + 1) ∨ (j = 1 ∧ acc = meetK d k ∧ n = 0)))
    (d.length + 1) ⟨0, 0, [], rfl, Nat.le_refl _, Nat.zero_le _, .inl ⟨rfl, rfl, rfl⟩⟩ ?_) ?_
  · rintro n ρ' ⟨i, j, acc, rfl, hacc, hid, hj⟩
    refine ⟨decide ((i : Int) < ((d.map seg).length : Int)) && (decide ((j : Int) < (([(k, k)].map seg).length : Int)) && true), ?_, fun hb => ?_, fun hb => ?_⟩
    · refine ts_bool (tsa_and (ts_cmp ?_ ?_ co_lt rfl) fun _ => tsa_and (ts_cmp ?_ ?_ co_lt rfl) fun _ => tsa_and_nil)
      · lcg_src
      · exact ev_callB (id := "len") (ds := [dom d]) rfl (by decide) (by boot_by_name) (by lcg_src) (cl_lenT (by rw [List.length_map]; omega))
      · lcg_src
      · exact ev_callB (id := "len") (ds := [dom [(k, k)]]) rfl (by decide) (by boot_by_name) (by lcg_src) (cl_lenT (Nat.le_of_ble_eq_true rfl))
    · simp only [Bool.and_true, Bool.and_eq_true, decide_eq_true_eq, List.length_map, List.length_cons, List.length_nil] at hb
      obtain ⟨hi, hj1⟩ := hb
      rcases hj with ⟨rfl, hm, rfl⟩ | ⟨rfl, _⟩
      case inr => omega
      have hlt : i < d.length := by omega
      obtain ⟨⟨u, v⟩, huv⟩ : ∃ p, d[i]? = some p := ⟨_, List.getElem?_eq_getElem hlt⟩
      have hdrop : d.drop i = (u, v) :: d.drop (i + 1) := by
        have e : d[i] = (u, v) := by
          have := List.getElem?_eq_getElem hlt
          rw [huv] at this; exact (Option.some.inj this).symm
        rw [← e, List.getElem_cons_drop]
      rw [hdrop, meetK_cons] at hm
      have z : ((0 : Nat) : Int) = 0 := rfl
      refine ex_swap (ds := [.int (if k > u then k else u), .int (if k < v then k else v)]) ?_ rfl ?_ ?_ rfl rfl ?_
      · refine ev_tuple (evs_cons ?_ (evs_cons ?_ evs_nil rfl) rfl) (Nat.le_of_ble_eq_true rfl)
        · refine ev_callB (id := "max") rfl (by decide) (by boot_by_name) (evs_cons ?_ (evs_cons ?_ evs_nil rfl) rfl) cl_max
          · exact ev_segLo (by keq_rows) (by lcg_src) huv hd fun _ _ => rfl
          · exact ev_segLo (d := [(k, k)]) (i := 0) (by keq_rows) (by lcg_src) rfl (Nat.le_of_ble_eq_true rfl) fun _ _ => rfl
        · refine ev_callB (id := "min") rfl (by decide) (by boot_by_name) (evs_cons ?_ (evs_cons ?_ evs_nil rfl) rfl) cl_min
          · exact ev_segHi (by keq_rows) (by lcg_src) huv hd fun _ _ => rfl
          · exact ev_segHi (d := [(k, k)]) (i := 0) (by keq_rows) (by lcg_src) rfl (Nat.le_of_ble_eq_true rfl) fun _ _ => rfl
      · exact offs_cons (.inr (.inl rfl)) (offs_cons (.inr (.inl rfl)) offs_nil)
      · keq_hits
      generalize (if k > u then k else u) = lo at hm ⊢
      generalize (if k < v then k else v) = hi' at hm ⊢
      refine ex_consS (("found", .own a ((acc ++ (if lo ≤ hi' then [(lo, hi')] else [])).map seg)) :: [("i", .val (.int (i : Nat))), ("j", .val (.int ((0 : Nat) : Int))), ("d", .val (dom d)), ("e", .val (dom [(k, k)]))]) ?_ ?_
      · refine ex1_if (b := decide (lo ≤ hi')) ?_ (fun h => ?_) fun h => ?_
        · lcg_src
        · rw [if_pos (of_decide_eq_true h)]
          refine ex_cons (ex1_append (a := a) (ds := acc.map seg) (d := .tuple [.int lo, .int hi']) (by keq_rows) ?_ rfl ?_) fun ρ' e => ex_nil ?_
          · lcg_src
          · rw [List.length_map]; omega
          · rw [e]
            have e2 : (acc ++ [(lo, hi')]).map seg = acc.map seg ++ [.tuple [.int lo, .int hi']] := by simp [seg]
            rw [e2]
            keq_rows
        · rw [if_neg (of_decide_eq_false h), List.append_nil]
          refine ex_nil ?_
          keq_rows
      · have hacc' : (acc ++ (if lo ≤ hi' then [(lo, hi')] else [])).length ≤ i + 1 := by
          rw [List.length_append]; split <;> simp <;> omega
        refine ex_ifTail (b := decide (v < k)) ?_ (fun h => ?_) fun h => ?_
        · refine ts_cmp ?_ ?_ co_lt rfl
          · exact ev_segHi (by keq_rows) (by lcg_src) huv hd fun _ _ => rfl
          · exact ev_segHi (d := [(k, k)]) (i := 0) (by keq_rows) (by lcg_src) rfl (Nat.le_of_ble_eq_true rfl) fun _ _ => rfl
        · refine ex_reset (d := .int ((i + 1 : Nat) : Int)) [("found", .own a ((acc ++ (if lo ≤ hi' then [(lo, hi')] else [])).map seg)), ("j", .val (.int ((0 : Nat) : Int))), ("d", .val (dom d)), ("e", .val (dom [(k, k)]))] ?_ (by keq_rows) (by kas_types) (.inr (.inl rfl)) rfl (ex_nil ?_)
          · exact ev_bin (ev_name (by keq_rows)) ev_int bo_add
          · refine ⟨d.length - (i + 1) + 1, _, by omega, ?_, i + 1, 0, _, rfl, hacc', hlt, .inl ⟨rfl, ?_, rfl⟩⟩
            · keq_rows
            · rw [if_pos (of_decide_eq_true h)] at hm
              rw [List.append_assoc]; exact hm
        · refine ex_reset (d := .int ((0 + 1 : Nat) : Int)) [("found", .own a ((acc ++ (if lo ≤ hi' then [(lo, hi')] else [])).map seg)), ("i", .val (.int (i : Nat))), ("d", .val (dom d)), ("e", .val (dom [(k, k)]))] ?_ (by keq_rows) (by kas_types) (.inr (.inl rfl)) rfl (ex_nil ?_)
          · exact ev_bin (ev_name (by keq_rows)) ev_int bo_add
          · rw [if_neg (of_decide_eq_false h), List.append_nil] at hm
            refine ⟨0, meetRho a (acc ++ (if lo ≤ hi' then [(lo, hi')] else [])) i (1 : Nat) d k, by omega, ?_, i, 1, _, rfl, ?_, hid, .inr ⟨rfl, hm, rfl⟩⟩
            · keq_rows
            · exact hacc'
    · intro p hp
      obtain rfl := List.mem_singleton.mp hp
      have : acc = meetK d k := by
        rcases hj with ⟨rfl, hm, _⟩ | ⟨_, h, _⟩
        · have : ¬ i < d.length := fun h => by simp at hb; omega
          rw [List.drop_eq_nil_of_le (by omega)] at hm
          simpa [meetK] using hm
        · exact h
      rw [this]
      exact .head _
  · refine ex_ret (d := dom (meetK d k)) ?_ rfl
    have hlen := meetK_len (d := d) (k := k)
    refine ev_callT (id := "tuple") (ds := [.list ((meetK d k).map seg)]) rfl (by decide) (by boot_by_name) ?_ (cl_tuple ?_)
    · exact evs_cons (ev_name (.head _)) evs_nil rfl
    · rw [List.length_map]; omega
noncomputable def struck (s : Sg) (k : Int) (d : List (Int × Int)) : List (Int × Int) := match s with
  | .le => upTo d k
  | .ge => fromOn d k
  | .eq => meetK d k
  | .ne => without d k
theorem struck_fn {W : Wd} {x k : Int} {s : Sg} {d : List (Int × Int)} (hd : d.length ≤ 1000) : Fn W 2 "struck" [lit x s k, dom d] (dom (struck s k d)) := by
  refine fn_intro r_struck _ def_struck rfl fun A L a' cd g lev hlev => ?_
  refine ex_body ?_ rfl
  cases s
  · kpf_close
    refine ex_ifRet (b := Sg.le.str == Str.ofString "<=") (by lcg_src) (by decide +kernel) ?_
    refine ex_ret (d := dom (upTo d k)) ?_ rfl
    exact ev_call r_up_to recIs_mem rfl rfl (by lcg_src) (up_to_fn hd) (by omega) rfl rfl
  · kpf_close
    refine ex_ifSkip (b := Sg.ge.str == Str.ofString "<=") (by lcg_src) (by decide +kernel) ?_
    refine ex_ifRet (b := Sg.ge.str == Str.ofString ">=") (by lcg_src) (by decide +kernel) ?_
    refine ex_ret (d := dom (fromOn d k)) ?_ rfl
    exact ev_call r_from_on recIs_mem rfl rfl (by lcg_src) (from_on_fn hd) (by omega) rfl rfl
  · kpf_close
    refine ex_ifSkip (b := Sg.eq.str == Str.ofString "<=") (by lcg_src) (by decide +kernel) ?_
    refine ex_ifSkip (b := Sg.eq.str == Str.ofString ">=") (by lcg_src) (by decide +kernel) ?_
    refine ex_ret (d := dom (meetK d k)) (ev_iteT (b := Sg.eq.str == Str.ofString "=") (by lcg_src) (by decide +kernel) ?_) rfl
    exact ev_call r_meet recIs_mem rfl rfl (evs_cons (by lcg_src) (evs_cons (d := dom [(k, k)]) (by lcg_src) evs_nil rfl) rfl) (meet_fn hd) (by omega) rfl rfl
  · kpf_close
    refine ex_ifSkip (b := Sg.ne.str == Str.ofString "<=") (by lcg_src) (by decide +kernel) ?_
    refine ex_ifSkip (b := Sg.ne.str == Str.ofString ">=") (by lcg_src) (by decide +kernel) ?_
    refine ex_ret (d := dom (without d k)) (ev_iteF (b := Sg.ne.str == Str.ofString "=") (by lcg_src) (by decide +kernel) ?_) rfl
    exact ev_call r_without recIs_mem rfl rfl (by lcg_src) (without_fn hd) (by omega) rfl rfl
theorem seg_eqv {p q : Int × Int} : PyData.eqv (seg p) (seg q) = (p == q) := by
  obtain ⟨a, b⟩ := p
  obtain ⟨c, d⟩ := q
  simp only [seg, PyData.eqv, PyData.eqvAll, Bool.and_true]
  rfl
theorem segs_eqv : ∀ {d e : List (Int × Int)}, PyData.eqvAll (d.map seg) (e.map seg) = (d == e)
  | [], [] => rfl
  | [], _ :: _ => rfl
  | _ :: _, [] => rfl
  | p :: d, q :: e => by
    simp only [List.map_cons, PyData.eqvAll, seg_eqv, segs_eqv]
    rfl
theorem dom_eqv {d e : List (Int × Int)} : PyData.eqv (dom d) (dom e) = (d == e) := by
  simp only [dom, PyData.eqv, segs_eqv]
theorem dom_lay {d : List (Int × Int)} : (dom d).canLay0 = true := by
  simp only [dom, PyData.canLay0]
  induction d with
  | nil => simp [PyData.canLayAll0]
  | cons p d ih => simp [PyData.canLayAll0, seg, PyData.canLay0] at ih ⊢; exact ih
theorem dom_depth {d : List (Int × Int)} : (dom d).depth ≤ 100 := by
  have : ∀ d : List (Int × Int), PyData.depthAll (d.map seg) ≤ 1 := fun d => by
    induction d with
    | nil => simp [PyData.depthAll]
    | cons p d ih =>
      have : (seg p).depth = 1 := by simp [seg, PyData.depth, PyData.depthAll]
      simp only [List.map_cons, PyData.depthAll, this]; omega
  have := this d
  simp only [dom, PyData.depth]; omega
theorem co_eqDom {W : Wd} {A : Around} {fe : Env} {lev : Nat} {d e : List (Int × Int)} : Co W A fe lev .Eq (dom d) (dom e) (d == e) := by
  rw [← dom_eqv]; exact co_eq dom_lay dom_lay dom_depth
theorem co_neDom {W : Wd} {A : Around} {fe : Env} {lev : Nat} {d e : List (Int × Int)} : Co W A fe lev .NotEq (dom d) (dom e) (d != e) := by
  unfold bne
  rw [← dom_eqv]; exact co_ne dom_lay dom_lay dom_depth
noncomputable def saidOf (s : Sg) (k : Int) (d : List (Int × Int)) : Int := if struck s k d == d then 1 else if struck s k d == [] then -1 else 0
theorem said_of_fn {W : Wd} {x k : Int} {s : Sg} {d : List (Int × Int)} (hd : d.length ≤ 1000) : Fn W 3 "said_of" [lit x s k, dom d] (.int (saidOf s k d)) := by
  refine fn_intro r_said_of _ def_said_of rfl fun A L a' cd g lev hlev => ?_
  refine ex_body ?_ rfl
  refine ex_set (d := dom (struck s k d)) ?_ (by kas_types) (.inl rfl) rfl ?_
  · exact ev_call r_struck recIs_mem rfl rfl (by lcg_src) (struck_fn hd) (by omega) rfl rfl
  cases h : struck s k d == d
  · refine ex_ifSkip (b := struck s k d == d) ?_ h ?_
    · exact ts_cmp (by lcg_src) (by lcg_src) co_eqDom rfl
    cases h2 : struck s k d == []
    · refine ex_ret (d := .int 0) (ev_iteF (b := struck s k d == []) ?_ h2 ?_) ?_
      · exact ts_cmp (d₂ := dom []) (by lcg_src) (by lcg_src) co_eqDom rfl
      · lcg_src
      · unfold saidOf; rw [h, h2]; rfl
    · refine ex_ret (d := .int (-1)) (ev_iteT (b := struck s k d == []) ?_ h2 ?_) ?_
      · exact ts_cmp (d₂ := dom []) (by lcg_src) (by lcg_src) co_eqDom rfl
      · lcg_src
      · unfold saidOf; rw [h, h2]; rfl
  · refine ex_ifRet (b := struck s k d == d) ?_ h ?_
    · exact ts_cmp (by lcg_src) (by lcg_src) co_eqDom rfl
    refine ex_ret (d := .int 1) (by lcg_src) ?_
    unfold saidOf; rw [h]; rfl
local macro_rules | `(tactic| lcg_src) => `(tactic| ((with_reducible show Ev _ _ _ _ _ _ (Expr.Call (Expr.Name (Str.ofString "implies") _) _ _ _) _); refine' ev_call r_implies recIs_mem rfl ?k ?a implies_fn ?n ?d ?e; (case k => exact rfl); (case d => exact rfl); (case e => exact rfl); (case n => omega); (case a => lcg_src)))
local macro_rules | `(tactic| lcg_src) => `(tactic| ((with_reducible show Ev _ _ _ _ _ _ (Expr.Call (Expr.Name (Str.ofString "has") _) _ _ _) _); refine' ev_call r_has recIs_mem rfl ?k ?a has_fn ?n ?d ?e; (case k => exact rfl); (case d => exact rfl); (case e => exact rfl); (case n => omega); (case a => lcg_src)))
section
variable {W : Wd} {A : Around} {fe : Env} {lev : Nat} {g : Heap} {M : List Addr} {ρ ρ' : Rho} {Nx : Rho → Prop} {Rt : Rho → PyData → Prop}
end
noncomputable def litAt (x : Int) (p : Sg × Int) : PyData := lit x p.1 p.2
noncomputable def elders1 (s t : Sg) (high : Int) : List (Sg × Int) := if [Sg.ge, .ne].contains s && [Sg.le, .eq].contains t then [(.le, high)] else []
noncomputable def elders2 (s t : Sg) (low : Int) : List (Sg × Int) := if [Sg.le, .ne].contains s && [Sg.ge, .eq].contains t then [(.ge, low)] else []
noncomputable def eldersV (s : Sg) (k : Int) (t : Sg) (m : Int) (d : List (Int × Int)) (v : Int) : List (Sg × Int) := if !hasB d v && (isMet s k v && !isMet t m v) then [(.ne, v)] else []
noncomputable def intsAB (a b : Int) : List Int := (List.range (b - a).toNat).map fun (i : Nat) => a + (i : Int)
theorem rangeD_ints {a b : Int} : rangeD a b = (intsAB a b).map .int := by simp [rangeD, intsAB]
theorem intsAB_len {a b : Int} : (intsAB a b).length = (b - a).toNat := by simp [intsAB]
noncomputable def elders (x : Int) (s : Sg) (k : Int) (y : Int) (t : Sg) (m : Int) (d : List (Int × Int)) (low high : Int) : List (Sg × Int) :=
  if implB x s k y t m then [] else elders1 s t high ++ elders2 s t low ++ (intsAB low (high + 1)).flatMap (eldersV s k t m d)
noncomputable abbrev eldRho (a : Addr) (acc : List (Sg × Int)) (x : Int) (s : Sg) (k y : Int) (t : Sg) (m : Int) (d : List (Int × Int)) (low high : Int) : Rho :=
  [("found", .own a (acc.map (litAt x))), ("low", .val (.int low)), ("high", .val (.int high)), ("x", .val (.int x)), ("sign", .val (.str s.str)), ("literal", .val (lit x s k)), ("before", .val (dom d)), ("wanted", .val (lit y t m))]
theorem lit_imm {x k : Int} {s : Sg} : imm (lit x s k) = true := rfl
theorem elders_fn {W : Wd} {x k y m : Int} {s t : Sg} {d : List (Int × Int)} {low high b c : Int} {r l : List (Int × Int)} (h1 : d = (low, b) :: r) (h2 : d = l ++ [(c, high)]) (hlo : -1000 ≤ low ∧ low ≤ 1000) (hhi : -1000 ≤ high ∧ high ≤ 1000) :
    Fn W 2 "elders" [lit x s k, dom d, lit y t m] (.list ((elders x s k y t m d low high).map (litAt x))) := by
  refine fn_intro r_elders _ def_elders rfl fun A L a' cd g lev hlev => ?_
  refine ex_body ?_ rfl
  have hsz : (5000 : Nat) ≤ sizeLine := by decide
  cases hi : implB x s k y t m
  case true =>
    refine ex_ifRet (b := implB x s k y t m) (Ev.toTs (by lcg_src)) hi ?_
    refine ex_ret (d := .list []) (by lcg_src) ?_
    rw [elders, if_pos hi]; rfl
  refine ex_ifSkip (b := implB x s k y t m) (Ev.toTs (by lcg_src)) hi ?_
  kpf_close
  refine ex_swapX (PP := fun M' ρ' ents => ∃ a, M' = [a] ∧ ρ' = ([("x", .val (.int x)), ("sign", .val (.str s.str)), ("literal", .val (lit x s k)), ("before", .val (dom d)), ("wanted", .val (lit y t m))] : Rho) ∧ ents = [.val (.int low), .val (.int high), .own a []])
    (xs_val (d := .int low) ?_ (.inl rfl) (xs_val (d := .int high) ?_ (.inl rfl) (xs_ent xe_list0 ?_ rfl) rfl) rfl) ?_ rfl rfl (by decide)
  · refine ev_call r_least recIs_mem rfl rfl (evs_cons (d := dom ((low, b) :: r)) ?_ evs_nil rfl) least_fn (by omega) rfl rfl
    rw [← h1]; lcg_src
  · refine ev_call r_greatest recIs_mem rfl rfl (evs_cons (d := dom (l ++ [(c, high)])) ?_ evs_nil rfl) greatest_fn (by omega) rfl rfl
    rw [← h2]; lcg_src
  · rintro M' ρ' ent ⟨a, rfl, rfl, rfl⟩
    exact ⟨[], evs_nil, offs_nil, a, rfl, rfl, rfl⟩
  rintro M' ρ' ents ⟨a, rfl, rfl, rfl⟩
  refine ⟨rfl, .cons (by kas_types) (.cons (by kas_types) (.cons (by kas_types) .nil)), ?_⟩
  -- the first two
  refine ex_consS (eldRho a (elders1 s t high) x s k y t m d low high) (ex1_if (b := [Sg.ge, .ne].contains s && ([Sg.le, .eq].contains t && true)) ?_ (fun h => ?_) fun h => ?_) ?_
  · refine ts_bool (tsa_and (ts_cmp ?_ ?_ (co_inTSg (l := [.ge, .ne])) rfl) fun _ => tsa_and (ts_cmp ?_ ?_ (co_inTSg (l := [.le, .eq])) rfl) fun _ => tsa_and_nil) <;> lcg_src
  · rw [Bool.and_true] at h
    refine ex_cons (ex1_append (a := a) (ds := []) (d := lit x .le high) (by keq_rows) ?_ rfl (by decide)) fun ρ' e => ex_nil ?_
    · lcg_src
    · rw [e, elders1, if_pos h]
      keq_rows
  · rw [Bool.and_true] at h
    refine ex_nil ?_
    rw [elders1, if_neg (by rw [h]; decide)]
    keq_rows
  have l1 : (elders1 s t high).length ≤ 1 := by unfold elders1; split <;> simp
  refine ex_consS (eldRho a (elders1 s t high ++ elders2 s t low) x s k y t m d low high) (ex1_if (b := [Sg.le, .ne].contains s && ([Sg.ge, .eq].contains t && true)) ?_ (fun h => ?_) fun h => ?_) ?_
  · refine ts_bool (tsa_and (ts_cmp ?_ ?_ (co_inTSg (l := [.le, .ne])) rfl) fun _ => tsa_and (ts_cmp ?_ ?_ (co_inTSg (l := [.ge, .eq])) rfl) fun _ => tsa_and_nil) <;> lcg_src
  · rw [Bool.and_true] at h
    refine ex_cons (ex1_append (a := a) (ds := (elders1 s t high).map (litAt x)) (d := lit x .ge low) (by keq_rows) ?_ rfl ?_) fun ρ' e => ex_nil ?_
    · lcg_src
    · rw [List.length_map]; omega
    · rw [e, elders2, if_pos h]
      have e2 : (elders1 s t high ++ [(Sg.ge, low)]).map (litAt x) = (elders1 s t high).map (litAt x) ++ [lit x .ge low] := by simp [litAt]
      rw [eldRho, e2]
      keq_rows
  · rw [Bool.and_true] at h
    refine ex_nil ?_
    rw [elders2, if_neg (by rw [h]; decide), List.append_nil]
    keq_rows
  have l2 : (elders1 s t high ++ elders2 s t low).length ≤ 2 := by
    rw [List.length_append]
    have : (elders2 s t low).length ≤ 1 := by unfold elders2; split <;> simp
    omega
  generalize hacc : elders1 s t high ++ elders2 s t low = acc0 at l2 ⊢
  refine ex_consS [("found", .own a ((acc0 ++ (intsAB low (high + 1)).flatMap (eldersV s k t m d)).map (litAt x)))] (Ex1.imp ?_ (fun _ _ h => h) (for_range (a := low) (b := high + 1)
    (fun pre ρ' => ∃ q : List Int, pre = q.map .int ∧ ρ' = eldRho a (acc0 ++ q.flatMap (eldersV s k t m d)) x s k y t m d low high) ?_ (by omega) (by omega) (by omega) (by omega) ?_ ?_ ?_)) ?_
  · rintro ρ' ⟨q, hq, rfl⟩
    rw [rangeD_ints] at hq
    have inj : ∀ p p' : Int, PyData.int p = PyData.int p' → p = p' := fun p p' e => by cases e; rfl
    obtain rfl : intsAB low (high + 1) = q := (List.map_inj_right (fun {x y} => inj x y)).mp hq
    keq_rows
  · refine rg_call (ds := [.int low, .int (high + 1)]) rfl ?_ (.inr rfl) rfl
    lcg_src
  · exact ⟨[], rfl, by simp⟩
  · rintro pre z post ρ' hds ⟨q, rfl, rfl⟩
    rw [rangeD_ints] at hds
    obtain ⟨q', r', hd', hq', hr'⟩ := List.map_eq_append_iff.mp hds
    obtain ⟨v, r'', rfl, rfl, _⟩ := List.map_eq_cons_iff.mp hr'
    have inj : ∀ p p' : Int, PyData.int p = PyData.int p' → p = p' := fun p p' e => by cases e; rfl
    obtain rfl : q' = q := (List.map_inj_right (fun {x y} => inj x y)).mp hq'
    have hql : q'.length ≤ 2001 := by
      have : q'.length ≤ (intsAB low (high + 1)).length := by rw [hd']; simp
      rw [intsAB_len] at this; omega
    have hfl : ∀ q : List Int, (q.flatMap (eldersV s k t m d)).length ≤ q.length := fun q => by
      induction q with
      | nil => exact Nat.le_refl _
      | cons v q ih =>
        have : (eldersV s k t m d v).length ≤ 1 := by unfold eldersV; split <;> simp
        simp only [List.flatMap_cons, List.length_append, List.length_cons]; omega
    refine ⟨_, tg_name (by kas_types), ?_⟩
    refine ex_ifTail (b := !hasB d v && (isMet s k v && (!isMet t m v && true))) ?_ (fun h => ?_) fun h => ?_
    · refine ts_bool (tsa_and (ts_not (Ev.toTs ?_)) fun _ => tsa_and (Ev.toTs ?_) fun _ => tsa_and (ts_not (Ev.toTs ?_)) fun _ => tsa_and_nil) <;> lcg_src
    · rw [Bool.and_true] at h
      refine ex_cons (ex1_append (a := a) (ds := (acc0 ++ q'.flatMap (eldersV s k t m d)).map (litAt x)) (d := lit x .ne v) (by keq_rows) ?_ rfl ?_) fun ρ' e => ex_nil ?_
      · lcg_src
      · rw [List.length_map, List.length_append]
        have := hfl q'
        omega
      · refine ⟨eldRho a (acc0 ++ (q' ++ [v]).flatMap (eldersV s k t m d)) x s k y t m d low high, ?_, q' ++ [v], by simp, rfl⟩
        have e2 : (acc0 ++ (q' ++ [v]).flatMap (eldersV s k t m d)).map (litAt x) = (acc0 ++ q'.flatMap (eldersV s k t m d)).map (litAt x) ++ [lit x .ne v] := by
          rw [List.flatMap_append, ← List.append_assoc, List.map_append]
          simp [eldersV, h, litAt]
        rw [e, eldRho, e2]
        keq_rows
    · rw [Bool.and_true] at h
      refine ex_nil ⟨eldRho a (acc0 ++ (q' ++ [v]).flatMap (eldersV s k t m d)) x s k y t m d low high, ?_, q' ++ [v], by simp, rfl⟩
      have e2 : (q' ++ [v]).flatMap (eldersV s k t m d) = q'.flatMap (eldersV s k t m d) := by
        rw [List.flatMap_append]
        simp only [List.flatMap_cons, List.flatMap_nil, List.append_nil, eldersV, h]
        simp
      rw [e2]
      keq_rows
  · exact fun _ => rfl
  refine ex_ret (d := .list _) (ev_name (.head _)) ?_
  rw [elders, if_neg (by rw [hi]; decide), hacc]
section
variable {W : Wd} {A : Around} {fe : Env} {lev : Nat} {env : Env} {ρ ρ₀ : List (Str × PyData)}
open Classical in
noncomputable def outBy {α : Type} (f : α → PyData) (o : α → List PyData) : PyData → List PyData := fun d => if h : ∃ p, f p = d then o h.choose else []
theorem outBy_at {α : Type} {f : α → PyData} (hf : ∀ p q, f p = f q → p = q) {o : α → List PyData} {p : α} : outBy f o (f p) = o p := by
  have h : ∃ q, f q = f p := ⟨p, rfl⟩
  unfold outBy
  rw [dif_pos h, hf _ _ h.choose_spec]
theorem outBy_map {α : Type} {f : α → PyData} (hf : ∀ p q, f p = f q → p = q) {o : α → List PyData} : ∀ {l : List α}, (l.map f).flatMap (outBy f o) = l.flatMap o
  | [] => rfl
  | p :: l => by rw [List.map_cons, List.flatMap_cons, List.flatMap_cons, outBy_at hf, outBy_map hf]
theorem ev_compL {α : Type} {elt target iter : Expr} {ifs : List Expr} {scope : Scope} {pos : Pos} {cl : List (Str × Addr)} {l : List α} {f : α → PyData} (hf : ∀ p q, f p = f q → p = q) (o : α → List PyData) (it : Itb W A fe lev env ρ iter (l.map f)) (B : Blk env ρ ρ₀ scope cl iter) (hsz : (l.flatMap o).length ≤ sizeLine)
    (turn : A.handled = none → ∀ C D G, ∀ p ∈ l, ∃ ρ', Tc W A (compEnvD scope cl C env) D (ownCells scope C) target (f p) ρ₀ ρ' ∧ Bd W A fe lev (compEnvD scope cl C env) D (ownCells scope C) G ρ' ρ₀ (emit1 ifs elt (.ref D) (compEnvD scope cl C env)) (o p)) :
    Ev W A fe lev env ρ (.ListComp elt [⟨target, iter, ifs, 0⟩] scope pos) (.list (l.flatMap o)) := by
  rw [← outBy_map hf (o := o)]
  refine ev_comp it B (outBy f o) (by rw [outBy_map hf]; exact hsz) fun hA C D G d hd => ?_
  obtain ⟨p, hp, rfl⟩ := List.mem_map.mp hd
  rw [outBy_at hf]
  exact turn hA C D G p hp
end
section
variable {W : Wd} {A : Around} {fe : Env} {lev : Nat} {g : Heap} {M : List Addr} {ρ : Rho} {ρ₀ : List (Str × PyData)} {Rt : Rho → PyData → Prop} {Nx : Rho → Prop}
theorem ex_compL {α : Type} {y : Str} {py spos : Pos} {elt target iter : Expr} {ifs : List Expr} {scope : Scope} {pos : Pos} {cl : List (Str × Addr)} {rest : List Stmt} {l : List α} {f : α → PyData} (hf : ∀ p q, f p = f q → p = q) (o : α → List PyData) (it : Itb W A fe lev fe (vals ρ) iter (l.map f)) (B : Blk fe (vals ρ) ρ₀ scope cl iter) (hsz : (l.flatMap o).length ≤ sizeLine)
    (turn : A.handled = none → ∀ C D G, ∀ p ∈ l, ∃ ρ', Tc W A (compEnvD scope cl C fe) D (ownCells scope C) target (f p) ρ₀ ρ' ∧ Bd W A fe lev (compEnvD scope cl C fe) D (ownCells scope C) G ρ' ρ₀ (emit1 ifs elt (.ref D) (compEnvD scope cl C fe)) (o p))
    (n : Nm fe ρ y) (hsw : swapsWith (.ListComp elt [⟨target, iter, ifs, 0⟩] scope pos) (some (.Name y py)) spos.line fe = pure true) (k : Ex W A fe lev g M ((y, .val (.list (l.flatMap o))) :: ρ) rest Nx Rt) :
    Ex W A fe lev g M ρ (.Assign [.Name y py] (.ListComp elt [⟨target, iter, ifs, 0⟩] scope pos) spos :: rest) Nx Rt := by
  refine ex_seq ?_ k
  rw [← outBy_map hf (o := o)]
  refine ex1_comp it B (outBy f o) (by rw [outBy_map hf]; exact hsz) (fun hA C D G d hd => ?_) n hsw
  obtain ⟨p, hp, rfl⟩ := List.mem_map.mp hd
  rw [outBy_at hf]
  exact turn hA C D G p hp
end
noncomputable abbrev Lit := Int × Sg × Int
noncomputable def litD (p : Lit) : PyData := lit p.1 p.2.1 p.2.2
theorem sg_inj {s t : Sg} (h : s.str = t.str) : s = t := by
  have := str_eq (s := s) (t := t)
  rw [h] at this
  simpa using this.symm
theorem litD_inj : ∀ p q : Lit, litD p = litD q → p = q := fun ⟨x, s, k⟩ ⟨y, t, m⟩ h => by
  simp only [litD, lit, PyData.tuple.injEq, List.cons.injEq, PyData.int.injEq, PyData.str.injEq, and_true] at h
  obtain ⟨rfl, h2, rfl⟩ := h
  rw [sg_inj h2]
theorem int_inj : ∀ p q : Int, PyData.int p = PyData.int q → p = q := fun _ _ h => by cases h; rfl
theorem zs_lay : ∀ {ns : List Int}, PyData.canLayAll0 (ns.map .int) = true
  | [] => by simp [PyData.canLayAll0]
  | _ :: _ => by simp [PyData.canLayAll0, PyData.canLay0, zs_lay]
theorem zs_depth : ∀ {ns : List Int}, PyData.depthAll (ns.map .int) = 0
  | [] => by simp [PyData.depthAll]
  | _ :: _ => by simp [PyData.depthAll, PyData.depth, zs_depth]
theorem zs_eqv : ∀ {a b : List Int}, PyData.eqvAll (a.map .int) (b.map .int) = (a == b)
  | [], [] => rfl
  | [], _ :: _ => rfl
  | _ :: _, [] => rfl
  | x :: a, y :: b => by
    simp only [List.map_cons, PyData.eqvAll, PyData.eqv, zs_eqv]
    rfl
theorem co_eqZs {W : Wd} {A : Around} {fe : Env} {lev : Nat} {a b : List Int} : Co W A fe lev .Eq (.list (a.map .int)) (.list (b.map .int)) (a == b) := by
  have := co_eq (W := W) (A := A) (fe := fe) (lev := lev) (a := .list (a.map .int)) (b := .list (b.map .int)) (by simp only [PyData.canLay0, zs_lay]) (by simp only [PyData.canLay0, zs_lay]) (by simp only [PyData.depth, zs_depth]; decide)
  simpa only [PyData.eqv, zs_eqv] using this
theorem co_neZs {W : Wd} {A : Around} {fe : Env} {lev : Nat} {a b : List Int} : Co W A fe lev .NotEq (.list (a.map .int)) (.list (b.map .int)) (a != b) := by
  have := co_ne (W := W) (A := A) (fe := fe) (lev := lev) (a := .list (a.map .int)) (b := .list (b.map .int)) (by simp only [PyData.canLay0, zs_lay]) (by simp only [PyData.canLay0, zs_lay]) (by simp only [PyData.depth, zs_depth]; decide)
  simpa only [PyData.eqv, zs_eqv, bne] using this
theorem zs_any {v : Int} : ∀ {ns : List Int}, ((ns.map PyData.int).any fun y => PyData.eqv y (.int v)) = ns.contains v
  | [] => rfl
  | n :: ns => by
    simp only [List.map_cons, List.any_cons, PyData.eqv, zs_any, List.contains_cons]
    rw [Bool.beq_comm]
theorem co_notInZs {W : Wd} {A : Around} {fe : Env} {lev : Nat} {v : Int} {ns : List Int} : Co W A fe lev .NotIn (.int v) (.list (ns.map .int)) (!ns.contains v) := by
  rw [← zs_any]
  exact co_notIn (by simp only [PyData.canLay0]) zs_lay (by simp only [PyData.depth]; decide)
noncomputable def meets (ls : List Lit) (v : Int) : Bool := ls.all fun p => isMet p.2.1 p.2.2 v
noncomputable def kept (ls : List Lit) (ns : List Int) : List Int := ns.filter (meets ls)
theorem bools_any {ls : List Lit} {v : Int} : ((ls.flatMap fun p => [PyData.bool (isMet p.2.1 p.2.2 v)]).any fun y => PyData.eqv y (.bool false)) = !meets ls v := by
  induction ls with
  | nil => rfl
  | cons p ls ih =>
    simp only [List.flatMap_cons, List.cons_append, List.nil_append, List.any_cons, ih, meets, List.all_cons, PyData.eqv]
    cases isMet p.2.1 p.2.2 v <;> simp
theorem filter_flat {ns : List Int} {q : Int → Bool} : (ns.flatMap fun v => if q v then [PyData.int v] else []) = (ns.filter q).map .int := by
  induction ns with
  | nil => rfl
  | cons v ns ih =>
    simp only [List.flatMap_cons, ih, List.filter_cons]
    split <;> simp
theorem law_kept_fn {W : Wd} {ls : List Lit} {ns : List Int} (hl : ls.length ≤ 1000) (hn : ns.length ≤ 1000) : Fn W 1 "_law_kept" [.list (ls.map litD), .list (ns.map .int)] (.list ((kept ls ns).map .int)) := by
  refine fn_intro r_law_kept _ def_law_kept rfl fun A L a' cd g lev hlev => ?_
  refine ex_body ?_ rfl
  have hsz : (5000 : Nat) ≤ sizeLine := by decide
  have hk : (kept ls ns).length ≤ 1000 := Nat.le_trans (List.length_filter_le _ _) hn
  refine ex_ret (d := .list ((kept ls ns).map .int)) ?_ rfl
  unfold kept
  rw [← filter_flat]
  refine ev_compL (cl := [("literals", L + 1)]) (ρ₀ := [("literals", .list (ls.map litD))]) int_inj (fun v => if meets ls v then [PyData.int v] else []) (itb_list (ev_name (by keq_rows)) ?_) ⟨rfl, ⟨rfl, trivial⟩, ?_, rfl, by decide, fun _ => rfl⟩ ?_ fun hA C D G v hv => ?_
  · intro x hx; obtain ⟨p, _, rfl⟩ := List.mem_map.mp hx; rfl
  · intro p hp
    obtain rfl := List.mem_singleton.mp hp
    exact ⟨by keq_rows, .inl rfl, fun _ => .inl rfl, fun _ => rfl⟩
  · rw [filter_flat, List.length_map]; exact Nat.le_trans hk (by decide)
  · refine ⟨_, tc_name ⟨.inr ⟨rfl, C + 1, rfl, .head _⟩, rfl, rfl, rfl⟩, bd_emit1 (ts_cmp (d₂ := .list (ls.flatMap fun p => [PyData.bool (isMet p.2.1 p.2.2 v)])) ev_bool ?_ ?_ rfl) (fun _ => ev_name (.head _)) rfl fun p hp => .tail _ hp⟩
    · refine ev_compL (cl := [("v", C + 1)]) (ρ₀ := [("v", .int v)]) litD_inj (fun p => [PyData.bool (isMet p.2.1 p.2.2 v)]) (itb_list (ev_name (by keq_rows)) ?_) ⟨rfl, ⟨rfl, trivial⟩, ?_, rfl, by decide, fun _ => rfl⟩ ?_ fun hA C' D' G' p hp => ?_
      · intro x hx; obtain ⟨p, _, rfl⟩ := List.mem_map.mp hx; rfl
      · intro p hp
        obtain rfl := List.mem_singleton.mp hp
        exact ⟨by keq_rows, .inl rfl, fun _ => .inl rfl, fun _ => rfl⟩
      · have : ∀ ls : List Lit, (ls.flatMap fun p => [PyData.bool (isMet p.2.1 p.2.2 v)]).length = ls.length := fun ls => by
          induction ls with
          | nil => rfl
          | cons p ls ih => simp only [List.flatMap_cons, List.length_append, ih, List.length_cons, List.length_nil]; omega
        rw [this]; omega
      · refine ⟨_, tc_name ⟨.inl rfl, rfl, rfl, rfl⟩, bd_emit0 ?_ rfl fun p hp => .tail _ hp⟩
        exact ev_call r_law_met recIs_mem rfl rfl (evs_cons (d := lit p.1 p.2.1 p.2.2) (ev_name (.head _)) (evs_cons (ev_name (by keq_rows)) evs_nil rfl) rfl) law_met_fn (by omega) rfl rfl
    · have lay : ∀ ls : List Lit, PyData.canLayAll0 (ls.flatMap fun p => [PyData.bool (isMet p.2.1 p.2.2 v)]) = true := fun ls => by
        induction ls with
        | nil => simp [PyData.canLayAll0]
        | cons p ls ih => simp only [List.flatMap_cons, List.cons_append, List.nil_append, PyData.canLayAll0, PyData.canLay0, ih, Bool.and_self]
      have := co_notIn (W := W) (A := A) (fe := envOfC r_law_kept.name r_law_kept.scope L a' cd) (lev := lev) (a := .bool false) (l := ls.flatMap fun p => [PyData.bool (isMet p.2.1 p.2.2 v)]) (by simp only [PyData.canLay0]) (lay ls) (by simp only [PyData.depth]; decide)
      rw [bools_any, Bool.not_not] at this
      exact this
noncomputable def within (a b : List Int) : Bool := (a.filter fun v => !b.contains v) == []
theorem law_is_within_fn {W : Wd} {a b : List Int} (ha : a.length ≤ 1000) : Fn W 0 "_law_is_within" [.list (a.map .int), .list (b.map .int)] (.bool (within a b)) := by
  refine fn_intro r_law_is_within _ def_law_is_within rfl fun A L a' cd g lev hlev => ?_
  refine ex_body ?_ rfl
  have hk : (a.filter fun v => !b.contains v).length ≤ 1000 := Nat.le_trans (List.length_filter_le _ _) ha
  refine ex_ret (d := .bool (within a b)) (ev_cmp (d₁ := .list ((a.filter fun v => !b.contains v).map .int)) (d₂ := .list (([] : List Int).map .int)) ?_ (by lcg_src) co_eqZs rfl) rfl
  rw [← filter_flat]
  refine ev_compL (cl := [("others", L + 1)]) (ρ₀ := [("others", .list (b.map .int))]) int_inj (fun v => if !b.contains v then [PyData.int v] else []) (itb_list (ev_name (by keq_rows)) ?_) ⟨rfl, ⟨rfl, trivial⟩, ?_, rfl, by decide, fun _ => rfl⟩ ?_ fun hA C D G v hv => ?_
  · intro x hx; obtain ⟨p, _, rfl⟩ := List.mem_map.mp hx; rfl
  · intro p hp
    obtain rfl := List.mem_singleton.mp hp
    exact ⟨by keq_rows, .inl rfl, fun _ => .inl rfl, fun _ => rfl⟩
  · rw [filter_flat, List.length_map]; exact Nat.le_trans hk (by decide)
  · exact ⟨_, tc_name ⟨.inl rfl, rfl, rfl, rfl⟩, bd_emit1 (ts_cmp (ev_name (.head _)) (ev_name (by keq_rows)) co_notInZs rfl) (fun _ => ev_name (.head _)) rfl fun p hp => .tail _ hp⟩
noncomputable def inner2 (e : Expr) (iter : Expr) (acc : Value) (env : Env) : Sem Unit := do
  let x ← eval iter env
  standAt iter.pos
  let x ← foldedSetIterable iter env x
  let _ ← runOwn (.compStart e 1 (← holding [x] (pyIter x)) acc env) env
  pure ()
section
variable {M : Model} {A : Around}
theorem cturn2 {elt t1 i1 t2 i2 : Expr} {scope : Scope} {pos : Pos} {it acc : Value} {env : Env} :
    CTurn M A (.ListComp elt [⟨t1, i1, [], 0⟩, ⟨t2, i2, [], 0⟩] scope pos) 0 it acc env t1 (inner2 (.ListComp elt [⟨t1, i1, [], 0⟩, ⟨t2, i2, [], 0⟩] scope pos) i2 acc env) := by
  intro s Q E h
  have e : compTurn (.ListComp elt [⟨t1, i1, [], 0⟩, ⟨t2, i2, [], 0⟩] scope pos) 0 it acc env = (do
      standAt i1.pos
      match ← pyNext it with
      | none => pure (.done .next)
      | some v =>
        letOwnedTupleGo t1 it v
        assign t1 env v
        let x ← eval i2 env
        standAt i2.pos
        let x ← foldedSetIterable i2 env x
        let _ ← runOwn (.compStart (.ListComp elt [⟨t1, i1, [], 0⟩, ⟨t2, i2, [], 0⟩] scope pos) 1 (← holding [x] (pyIter x)) acc env) env
        again (.compLoop (.ListComp elt [⟨t1, i1, [], 0⟩, ⟨t2, i2, [], 0⟩] scope pos) 0 it acc env)) := by rfl
  rw [e]
  refine wpAny_bind (wpAny_standAt (bind_mono h fun r s₁ h₁ => ?_))
  cases r with
  | none => exact wpAny_pure h₁
  | some v =>
    refine bind_mono h₁ fun _ s₂ h₂ => bind_mono h₂ fun _ s₃ h₃ => ?_
    unfold inner2 at h₃
    intro Γ p hΓ
    have h4 := h₃ Γ p hΓ
    simp only [Sem.wp_bind'] at h4 ⊢
    exact h4
theorem cturn2' {elt t1 i1 t2 i2 : Expr} {scope : Scope} {pos : Pos} {it acc : Value} {env : Env} :
    CTurn M A (.ListComp elt [⟨t1, i1, [], 0⟩, ⟨t2, i2, [], 0⟩] scope pos) 1 it acc env t2 (emit1 [] elt acc env) := by
  intro s Q E h
  have e : compTurn (.ListComp elt [⟨t1, i1, [], 0⟩, ⟨t2, i2, [], 0⟩] scope pos) 1 it acc env = (do
      standAt i2.pos
      match ← pyNext it with
      | none => pure (.done .next)
      | some v =>
        letOwnedTupleGo t2 it v
        assign t2 env v
        (eval elt env >>= fun x => call (.builtin "list.append") [acc, x] >>= fun _ => pure ())
        again (.compLoop (.ListComp elt [⟨t1, i1, [], 0⟩, ⟨t2, i2, [], 0⟩] scope pos) 1 it acc env)) := by rfl
  rw [e]
  refine wpAny_bind (wpAny_standAt (bind_mono h fun r s₁ h₁ => ?_))
  cases r with
  | none => exact wpAny_pure h₁
  | some v =>
    refine bind_mono h₁ fun _ s₂ h₂ => bind_mono h₂ fun _ s₃ h₃ => ?_
    have e2 : emit1 [] elt acc env = (eval elt env >>= fun x => call (.builtin "list.append") [acc, x] >>= fun _ => pure ()) := by rfl
    rw [e2] at h₃
    exact bind_mono h₃ fun _ s₄ h₄ => wpAny_pure h₄
end
section
variable {prog : Program} {w : World} {A : Around} {s : Shared} {R : Result → Shared → Prop}
theorem cstart2 {elt t1 i1 t2 i2 scope pos it acc env} (own : codeAny (model prog w) A (.compLoop (.ListComp elt [⟨t1, i1, [], 0⟩, ⟨t2, i2, [], 0⟩] scope pos) 1 it acc env) R s)
    (again : wpAny (model prog w) A (pyIter it) (fun x t => codeAny (model prog w) A (.compLoop (.ListComp elt [⟨t1, i1, [], 0⟩, ⟨t2, i2, [], 0⟩] scope pos) 1 x acc env) R t) (notedBy (model prog w) A env fun x t => R (.error x) t) s) :
    codeAny (model prog w) A (.compStart (.ListComp elt [⟨t1, i1, [], 0⟩, ⟨t2, i2, [], 0⟩] scope pos) 1 it acc env) R s := by
  refine codeAny_of_tree (wpAny_notedAt (m := compStart _ 1 it acc env) (wpAny_bind (wpAny_askSetting (wpAny_ite ?_))))
  split
  · exact wpAny_pure ⟨rfl, own⟩
  · refine wpAny_bind (wpAny_rule ?_)
    refine wpAny_bind (wpAny_standAt (bind_mono again fun x t k => wpAny_pure ⟨rfl, k⟩))
end
section
variable {W : Wd} {A : Around} {fe : Env} {lev : Nat} {cenv : Env} {D : Addr} {ρ ρ' : List (Str × PyData)} {G : Heap}
noncomputable def ItbA (W : Wd) (A : Around) (fe : Env) (lev : Nat) (env : Env) (ρ : List (Str × PyData)) (iter : Expr) (ds : List PyData) : Prop :=
  ∀ (s : Shared) (Q : Value → Shared → Prop) (E : Value → Shared → Prop), OK W A fe lev s.heap → Vars env ρ s.heap →
    (∀ (I : Addr) (fp : List Addr) (P : Nat → Value → Prop) (T : Nat → Heap → Prop) (G h₁ : Heap) (tk : Nat), Walks W.prog W.w A I fp [I] ds.length P T → (∀ i v, P i v → ∃ d, ds[i]? = some d ∧ ∀ H, Reads H v d []) → (∀ i h, T i h → ItSafe h I) →
      Le s.heap G → Le G h₁ → G.get? I = none → fp = [I] → T 0 h₁ → Q (.ref I) { s with heap := h₁, toks := tk }) →
    wpAny (model W.prog W.w) A (eval iter env) (fun x s₁ => wpAny (model W.prog W.w) A (pyIter x) Q E s₁) E s
theorem itbA_range {env : Env} {iter : Expr} {a b : Int} (hi : RgEv W A fe lev env ρ iter a b) (ha : -(2 ^ 62) ≤ a) (ha' : a < 2 ^ 62) (hb : -(2 ^ 62) ≤ b) (hb' : b < 2 ^ 62) : ItbA W A fe lev env ρ iter (rangeD a b) := by
  intro s Q E ok hv k
  refine hi s _ E ok hv fun r h₁ tk t u v l hr => ?_
  refine wpAny_pyIter_range (s := { s with heap := h₁, toks := tk }) hr (small_one ha ha' hb hb') ?_
  rw [rangeSize_nat]
  have lp := Le.push h₁ { cls := .type "range_iterator", data := .fields #[rawInt a, rawInt (((b - a).toNat : Nat) : Int), rawInt 1] }
  have Wk : Walks W.prog W.w A h₁.objs.size [h₁.objs.size] [h₁.objs.size] (b - a).toNat (fun i v => i < (b - a).toNat ∧ ∃ t, v = .int (a + i * 1) t)
    (fun i h => IsRangeIter h h₁.objs.size (a + (i : Nat) * 1) ((((b - a).toNat : Nat) : Int) - (i : Nat)) 1) := (Walks.range ok.hand h₁.objs.size a 1 (b - a).toNat).bound
  refine k _ _ _ _ h₁ _ tk (by rw [rangeD_len]; exact Wk) (fun i v e => ?_) (fun i h t => ⟨_, _, _, t, rfl, rfl, by decide⟩) l lp ?_ rfl (by simpa using Heap.get?_push_size _ rfl)
  · obtain ⟨hi, t, rfl⟩ := e
    refine ⟨_, rangeD_get hi, fun H => ?_⟩
    rw [Int.mul_one]
    exact .int _ _
  · exact Heap.get?_none_of_le (Nat.le_refl _)
theorem bd_inner {elt t1 i1 t2 i2 : Expr} {scope : Scope} {pos : Pos} {ds : List PyData} (hi : ItbA W A fe lev cenv ρ' i2 ds) (hf : ∀ x, foldedSetIterable i2 cenv x = pure x) (okG : OK W A fe lev G) (hGD : G.get? D = none) (hGC : G.get? cenv.locals = none)
    (out : PyData → List PyData) (hout : (ds.flatMap out).length ≤ 1000) (turn : ∀ d ∈ ds, ∃ ρ'', Tc W A cenv D [] t2 d ρ' ρ'' ∧ Bd W A fe lev cenv D [] G ρ'' ρ' (emit1 [] elt (.ref D) cenv) (out d)) (hsub : ∀ p ∈ ρ, p ∈ ρ') :
    Bd W A fe lev cenv D [] G ρ' ρ (inner2 (.ListComp elt [⟨t1, i1, [], 0⟩, ⟨t2, i2, [], 0⟩] scope pos) i2 (.ref D) cenv) (ds.flatMap out) := by
  intro s ys outs Q E ok lG V p r hsz k
  unfold inner2
  have step := hi s (fun it s₁ => wpAny (model W.prog W.w) A (runOwn (.compStart (.ListComp elt [⟨t1, i1, [], 0⟩, ⟨t2, i2, [], 0⟩] scope pos) 1 it (.ref D) cenv) cenv) (fun _ s' => Q () s') E s₁) E ok V.toVars fun I fp P T G₂ h₁ tk Wk hP hT l1 l2 hGI hfp t0 => ?_
  · refine wpAny_bind (wpAny_mono step (fun x s₁ h₁ => ?_) fun _ _ e => e)
    refine wpAny_bind (wpAny_standAt (wpAny_bind (wpAny_of_eq (hf x) (wpAny_bind (wpAny_holding (wpAny_mono h₁ (fun it s₂ h₂ => ?_) fun _ _ e => e))))))
    exact wpAny_bind (wpAny_mono h₂ (fun _ s₃ h₃ => wpAny_pure h₃) fun _ _ e => e)
  · have hA : A.mark none = A := by cases A; simp [Around.mark]
    refine wpAny_runOwn ?_
    rw [hA]
    have l12 : Le s.heap h₁ := l1.trans l2
    have V1 := V.up l12
    have p1 : h₁.PlainList D ys := p.at fun o e => l12 _ o e
    have hI0 : s.heap.get? I = none := by
      cases q : s.heap.get? I with
      | none => rfl
      | some o => rw [l1 _ _ q] at hGI; cases hGI
    have hGI' : G.get? I = none := by
      cases q : G.get? I with
      | none => rfl
      | some o => rw [lG _ _ q] at hI0; cases hI0
    obtain ⟨m, hm⟩ := V1.ns
    have main : codeAny (model W.prog W.w) A (.compLoop (.ListComp elt [⟨t1, i1, [], 0⟩, ⟨t2, i2, [], 0⟩] scope pos) 1 (.ref I) (.ref D) cenv) (fun r s' => match r with | .ok _ => Q () s' | .error e => cameBackBy (model W.prog W.w) A cenv E e s') { s with heap := h₁, toks := tk } := by
      refine comp_core (oc := ([] : List Addr)) (s := { s with heap := h₁, toks := tk }) Wk rfl (fun i v e => by obtain ⟨d, e1, r1⟩ := hP i v e; exact ⟨d, e1, r1 G⟩) hT (fun b hb => ?_) hGI' hGD hGC (fun _ h => absurd h List.not_mem_nil) okG cturn2' out outs (by rw [List.length_append]; exact hsz) turn V1 t0 (lG.trans l12) p1 (ReadsAll.keeps l12 r) fun h' tk' ys' f l' p' r' V' => ?_
      · rw [hfp] at hb
        obtain rfl := List.mem_singleton.mp hb
        obtain ⟨m0, o0, es0, ep0, x0, _⟩ := V.ns
        obtain ⟨y0, n1, e1⟩ := V.list
        exact ⟨fun e => (by rw [e, x0] at hI0; cases hI0), List.not_mem_nil, fun e => (by rw [e, e1] at hI0; cases hI0)⟩
      · exact k h' tk' ys' (fun b o e h1 h2 h3 => f b o (l12 _ _ e) (fun e' => by rw [e', hI0] at e; cases e) h1 h2 h3) p' r' (V'.sub hsub)
    refine cstart2 main ?_
    exact Wk.self 0 { s with heap := h₁, toks := tk } _ _ t0 main
end
noncomputable def sgs : List Sg := [.le, .ge, .eq, .ne]
noncomputable def allLits (x : Int) : List Lit := sgs.flatMap fun s => (intsAB (-2) 10).map fun k => (x, s, k)
theorem sg_inj' : ∀ s t : Sg, PyData.str s.str = PyData.str t.str → s = t := fun _ _ h => by
  simp only [PyData.str.injEq] at h
  exact sg_inj h
theorem flat_one {ns : List Int} {q : Int → PyData} : (ns.flatMap fun v => [q v]) = ns.map q := by
  induction ns with
  | nil => rfl
  | cons v ns ih => simp only [List.flatMap_cons, ih, List.map_cons]; rfl
theorem law_literals_fn {W : Wd} {x : Int} : Fn W 0 "_law_literals" [.int x] (.list ((allLits x).map litD)) := by
  refine fn_intro r_law_literals _ def_law_literals rfl fun A L a' cd g lev hlev => ?_
  refine ex_body ?_ rfl
  refine ex_ret (d := .list ((allLits x).map litD)) ?_ rfl
  intro s Q E ok hv k
  rw [eval_ListComp]
  have hl : ((sgs.map fun s => PyData.str s.str).flatMap (outBy (fun s : Sg => PyData.str s.str) fun s => (intsAB (-2) 10).map fun k => lit x s k)) = (allLits x).map litD := by
    rw [outBy_map sg_inj']
    rfl
  have hlen : ((allLits x).map litD).length = 48 := by rw [List.length_map]; rfl
  refine wpAny_comprehension_free (use := none) (cl := [("x", L + 1)]) rfl (fun _ => rfl) rfl rfl (by decide) ?_
  refine itb_list (W := W) (fe := envOfC r_law_literals.name r_law_literals.scope L a' cd) (lev := lev) (ρ := vals [("x", .val (.int x))]) (ds := sgs.map fun s => PyData.str s.str) ?_ ?_ s _ E ok hv fun I fp P T G h₁ tk Wk hP hT l1 l2 hs hGI hfp t0 => ?_
  · lcg_src
  · intro d hd; obtain ⟨p, _, rfl⟩ := List.mem_map.mp hd; rfl
  have okG := ok.up l1
  refine comp_block (s := { s with heap := h₁, toks := tk }) (ρ₀ := [("x", .int x)]) (RR := fun acc C => compPost (model W.prog W.w) A E none Q acc C) Wk rfl hP hT okG (hv.up l1) (cl := [("x", L + 1)]) ⟨rfl, trivial⟩ ?_ l2 hs hGI (fun b hb => (hfp b hb).1) t0
    (outBy (fun s : Sg => PyData.str s.str) fun s => (intsAB (-2) 10).map fun k => lit x s k) (by rw [hl, hlen]; decide) rfl (fun D C => cturn2) (fun C D hD hDC d hd => ?_) ?_
  · intro p hp
    obtain rfl := List.mem_singleton.mp hp
    exact ⟨.head _, .inl rfl, fun _ => .inl rfl, fun _ => rfl⟩
  · obtain ⟨sg, _, rfl⟩ := List.mem_map.mp hd
    rw [outBy_at sg_inj']
    have e3 : ((intsAB (-2) 10).map fun k => lit x sg k) = (rangeD (-2) 10).flatMap (outBy PyData.int fun k => [lit x sg k]) := by
      rw [rangeD_ints, outBy_map int_inj, flat_one]
    rw [e3]
    refine ⟨_, tc_name ⟨.inl rfl, rfl, rfl, rfl⟩, bd_inner (itbA_range (rg_call (ds := [.int (-2), .int 10]) rfl (by lcg_src) (.inr rfl) rfl) (by decide) (by decide) (by decide) (by decide)) (fun _ => rfl) okG (Heap.get?_none_of_le hD) (Heap.get?_none_of_le (Nat.le_of_lt (Nat.lt_of_le_of_lt hD hDC))) _ ?_ (fun d' hd' => ?_) fun p hp => .tail _ hp⟩
    · rw [← e3, List.length_map]; decide
    · rw [rangeD_ints] at hd'
      obtain ⟨z, _, rfl⟩ := List.mem_map.mp hd'
      rw [outBy_at int_inj]
      refine ⟨_, tc_name ⟨.inl rfl, rfl, rfl, rfl⟩, bd_emit0 ?_ lit_imm fun p hp => .tail _ hp⟩
      lcg_src
  · intro D C h' tk' ys m hDC hGD hGC lG nC pl r
    rw [hl] at r
    refine ⟨m, nC, fun h'' hs'' => ?_⟩
    have up : ∀ b o, b ≠ C → h'.get? b = some o → h''.get? b = some o := fun b o hb e => hs''.extBut b o hb e
    have pl2 : h''.PlainList D ys := pl.at fun o e => up D o hDC e
    refine k _ h'' tk' (fun b o e => up b o (fun q => by rw [q] at e; rw [l1 _ _ e] at hGC; cases hGC) (lG _ _ (l1 _ _ e))) (Rd.ofList pl2.isList ⟨_, readsAll_but r (fun _ h => h) (fun _ h => nomatch h) fun b o xs n e q _ => up b o (fun e' => ns_not_seq nC ⟨o, xs, n, e' ▸ e, q⟩) e, fun _ h => nomatch h⟩)
theorem litD_eqv {p q : Lit} : PyData.eqv (litD p) (litD q) = (p == q) := by
  obtain ⟨x, s, k⟩ := p
  obtain ⟨y, t, m⟩ := q
  rw [litD, litD, lit_eqv]
  show _ = (x == y && (s == t && k == m))
  rfl
theorem lits_eqv : ∀ {a b : List Lit}, PyData.eqvAll (a.map litD) (b.map litD) = (a == b)
  | [], [] => rfl
  | [], _ :: _ => rfl
  | _ :: _, [] => rfl
  | x :: a, y :: b => by
    simp only [List.map_cons, PyData.eqvAll, litD_eqv, lits_eqv]
    rfl
theorem lits_lay : ∀ {a : List Lit}, PyData.canLayAll0 (a.map litD) = true
  | [] => by simp [PyData.canLayAll0]
  | p :: a => by
    have : (litD p).canLay0 = true := lit_lay
    simp [PyData.canLayAll0, this, lits_lay]
theorem lits_depth : ∀ {a : List Lit}, PyData.depthAll (a.map litD) ≤ 1
  | [] => by simp [PyData.depthAll]
  | p :: a => by
    have : (litD p).depth = 1 := lit_depth
    have := lits_depth (a := a)
    simp only [List.map_cons, PyData.depthAll]; omega
theorem co_eqLits {W : Wd} {A : Around} {fe : Env} {lev : Nat} {a b : List Lit} : Co W A fe lev .Eq (.list (a.map litD)) (.list (b.map litD)) (a == b) := by
  have := co_eq (W := W) (A := A) (fe := fe) (lev := lev) (a := .list (a.map litD)) (b := .list (b.map litD)) (by simp only [PyData.canLay0, lits_lay]) (by simp only [PyData.canLay0, lits_lay]) (by have := lits_depth (a := a); simp only [PyData.depth]; omega)
  simpa only [PyData.eqv, lits_eqv] using this
theorem co_neLits {W : Wd} {A : Around} {fe : Env} {lev : Nat} {a b : List Lit} : Co W A fe lev .NotEq (.list (a.map litD)) (.list (b.map litD)) (a != b) := by
  have := co_ne (W := W) (A := A) (fe := fe) (lev := lev) (a := .list (a.map litD)) (b := .list (b.map litD)) (by simp only [PyData.canLay0, lits_lay]) (by simp only [PyData.canLay0, lits_lay]) (by have := lits_depth (a := a); simp only [PyData.depth]; omega)
  simpa only [PyData.eqv, lits_eqv, bne] using this
theorem filter_flatL {ls : List Lit} {q : Lit → Bool} : (ls.flatMap fun v => if q v then [litD v] else []) = (ls.filter q).map litD := by
  induction ls with
  | nil => rfl
  | cons v ls ih =>
    simp only [List.flatMap_cons, ih, List.filter_cons]
    split <;> simp
noncomputable def elder (x : Int) (p : Sg × Int) : Lit := (x, p.1, p.2)
noncomputable def toldOf (l w : Lit) (d : List (Int × Int)) (low high : Int) : List Lit := (elders l.1 l.2.1 l.2.2 w.1 w.2.1 w.2.2 d low high).map (elder l.1)
noncomputable def odd (l : Lit) (lot : List Int) (one : Lit) : Bool := one.1 != l.1 || (kept [one] lot != lot || false)
noncomputable def right3 (l : Lit) (told : List Lit) (every due : List Int) (n : Nat) : Bool := (List.range n).all fun i => !within (kept ([l] ++ told.take i ++ told.drop (i + 1)) every) due
noncomputable def eldersRight (l w : Lit) (lot every : List Int) (told : List Lit) : Bool :=
  if told.filter (odd l lot) != [] then false else
  if !within (kept ([l] ++ told) every) (kept [w] every) then false else
  if !right3 l told every (kept [w] every) told.length then false else
  (told == []) == implB l.1 l.2.1 l.2.2 w.1 w.2.1 w.2.2
theorem elders_len {x k y m : Int} {s t : Sg} {d : List (Int × Int)} {low high : Int} : (elders x s k y t m d low high).length ≤ 2 + (high + 1 - low).toNat := by
  have hfl : ∀ q : List Int, (q.flatMap (eldersV s k t m d)).length ≤ q.length := fun q => by
    induction q with
    | nil => exact Nat.le_refl _
    | cons v q ih =>
      have : (eldersV s k t m d v).length ≤ 1 := by unfold eldersV; split <;> simp
      simp only [List.flatMap_cons, List.length_append, List.length_cons]; omega
  unfold elders
  split
  · exact Nat.zero_le _
  · have a1 : (elders1 s t high).length ≤ 1 := by unfold elders1; split <;> simp
    have a2 : (elders2 s t low).length ≤ 1 := by unfold elders2; split <;> simp
    have a3 := hfl (intsAB low (high + 1))
    rw [intsAB_len] at a3
    simp only [List.length_append]; omega
theorem law_elders_right_fn {W : Wd} {l w : Lit} {lot every : List Int} {low high b c : Int} {r l' : List (Int × Int)} (hlot : lot.length < 64) (hs : lot.Pairwise (· ≤ ·)) (hev : every.length ≤ 1000)
    (h1 : fromV lot = (low, b) :: r) (h2 : fromV lot = l' ++ [(c, high)]) (hlo : -100 ≤ low ∧ low ≤ 100) (hhi : -100 ≤ high ∧ high ≤ 100) :
    Fn W 3 "_law_elders_right" [litD l, .list (lot.map .int), litD w, .list (every.map .int)] (.bool (eldersRight l w lot every (toldOf l w (fromV lot) low high))) := by
  refine fn_intro r_law_elders_right _ def_law_elders_right rfl fun A L a' cd g lev hlev => ?_
  refine ex_body ?_ rfl
  have hsz : (5000 : Nat) ≤ sizeLine := by decide
  have htl : (toldOf l w (fromV lot) low high).length ≤ 300 := by
    have := elders_len (x := l.1) (s := l.2.1) (k := l.2.2) (y := w.1) (t := w.2.1) (m := w.2.2) (d := fromV lot) (low := low) (high := high)
    unfold toldOf; rw [List.length_map]; omega
  refine ex_set (d := .list ((toldOf l w (fromV lot) low high).map litD)) ?_ (by kas_types) (.inl rfl) rfl ?_
  · have e : (toldOf l w (fromV lot) low high).map litD = (elders l.1 l.2.1 l.2.2 w.1 w.2.1 w.2.2 (fromV lot) low high).map (litAt l.1) := by
      unfold toldOf; rw [List.map_map]; rfl
    rw [e]
    refine ev_call r_elders recIs_mem rfl rfl (evs_cons (d := lit l.1 l.2.1 l.2.2) (ev_name (by keq_rows)) (evs_cons (d := dom (fromV lot)) ?_ (evs_cons (d := lit w.1 w.2.1 w.2.2) (ev_name (by keq_rows)) evs_nil rfl) rfl) rfl) (elders_fn h1 h2 (by omega) (by omega)) (by omega) rfl rfl
    exact ev_call r_from_values recIs_mem rfl rfl (by lcg_src) (from_values_fn hlot hs) (by omega) rfl rfl
  generalize toldOf l w (fromV lot) low high = told at htl ⊢
  have kcall : ∀ {fe : Env} {env : Env} {σ : List (Str × PyData)} {ls : List Lit} {ns : List Int} {e₁ e₂ : Expr} {np pos : Pos}, ls.length ≤ 1000 → ns.length ≤ 1000 → env.kindOf (Str.ofString "_law_kept") = some .globalImplicit → Ev W A fe lev env σ e₁ (.list (ls.map litD)) → Ev W A fe lev env σ e₂ (.list (ns.map .int)) →
      starEach [e₁, e₂] env = (false, eval e₁ env) :: starEach [e₂] env → starEach [e₂] env = (false, eval e₂ env) :: starEach [] env → Ev W A fe lev env σ (.Call (.Name (Str.ofString "_law_kept") np) [e₁, e₂] [] pos) (.list ((kept ls ns).map .int)) := fun h1 h2 hk x y a b =>
    ev_call r_law_kept recIs_mem rfl hk (evs_cons x (evs_cons y evs_nil b) a) (law_kept_fn h1 h2) (by omega) rfl a
  have wcall : ∀ {fe : Env} {env : Env} {σ : List (Str × PyData)} {ns ms : List Int} {e₁ e₂ : Expr} {np pos : Pos}, ns.length ≤ 1000 → env.kindOf (Str.ofString "_law_is_within") = some .globalImplicit → Ev W A fe lev env σ e₁ (.list (ns.map .int)) → Ev W A fe lev env σ e₂ (.list (ms.map .int)) →
      starEach [e₁, e₂] env = (false, eval e₁ env) :: starEach [e₂] env → starEach [e₂] env = (false, eval e₂ env) :: starEach [] env → Ev W A fe lev env σ (.Call (.Name (Str.ofString "_law_is_within") np) [e₁, e₂] [] pos) (.bool (within ns ms)) := fun h1 hk x y a b =>
    ev_call r_law_is_within recIs_mem rfl hk (evs_cons x (evs_cons y evs_nil b) a) (law_is_within_fn h1) (by omega) rfl a
  have keptLen : ∀ ls ns, (kept ls ns).length ≤ ns.length := fun ls ns => List.length_filter_le _ _
  refine ex_cons (N₁ := fun ρ' => (told.filter (odd l lot) != []) = false ∧ ρ' = ([("told", .val (.list (told.map litD))), ("literal", .val (litD l)), ("lot", .val (.list (lot.map .int))), ("wanted", .val (litD w)), ("every", .val (.list (every.map .int)))] : Rho))
    (ex1_if (b := told.filter (odd l lot) != []) ?_ (fun h => ?_) fun h => ex_nil ⟨h, rfl⟩) ?_
  · refine ts_cmp (d₁ := .list ((told.filter (odd l lot)).map litD)) (d₂ := .list (([] : List Lit).map litD)) ?_ (by lcg_src) co_neLits rfl
    rw [← filter_flatL]
    refine ev_compL (cl := [("lot", L + 2), ("literal", L + 1)]) (ρ₀ := [("literal", litD l), ("lot", .list (lot.map .int))]) litD_inj (fun v => if odd l lot v then [litD v] else []) (itb_list (ev_name (by keq_rows)) ?_) ⟨rfl, ⟨rfl, rfl, trivial⟩, ?_, rfl, by decide, fun _ => rfl⟩ ?_ fun hA C D G v hv => ?_
    · intro x hx; obtain ⟨p, _, rfl⟩ := List.mem_map.mp hx; exact lit_imm
    · intro p hp
      simp only [List.mem_cons, List.not_mem_nil, or_false] at hp
      rcases hp with rfl | rfl
      · exact ⟨by keq_rows, .inl rfl, fun _ => .inl rfl, fun _ => rfl⟩
      · exact ⟨by keq_rows, .inl rfl, fun _ => .inl rfl, fun _ => rfl⟩
    · rw [filter_flatL, List.length_map]
      have := List.length_filter_le (odd l lot) told
      omega
    · refine ⟨_, tc_name ⟨.inl rfl, rfl, rfl, rfl⟩, bd_emit1 (ts_bool (tsa_or (ts_cmp (d₁ := .int v.1) (d₂ := .int l.1) ?_ ?_ co_neI rfl) fun _ => tsa_or (ts_cmp ?_ ?_ co_neZs rfl) fun _ => tsa_or_nil)) (fun _ => ev_name (.head _)) lit_imm fun p hp => .tail _ hp⟩
      · exact ev_itemT (l := [.int v.1, .str v.2.1.str, .int v.2.2]) (j := 0) (k := 0) (ev_name (.head _)) ev_int rfl rfl (by decide) (by decide) fun _ _ => rfl
      · exact ev_itemT (l := [.int l.1, .str l.2.1.str, .int l.2.2]) (j := 0) (k := 0) (ev_name (by keq_rows)) ev_int rfl rfl (by decide) (by decide) fun _ _ => rfl
      · exact kcall (fe := envOfC r_law_elders_right.name r_law_elders_right.scope L a' cd) (ls := [v]) (by simp) (by omega) rfl (ev_list (evs_cons (ev_name (.head _)) evs_nil rfl) (Nat.le_of_ble_eq_true rfl)) (ev_name (by keq_rows)) rfl rfl
      · exact ev_name (by keq_rows)
  · refine ex_ret (d := .bool false) (by lcg_src) ?_
    unfold eldersRight; rw [if_pos h]
  rintro ρ' ⟨hc1, rfl⟩
  refine ex_set (d := .list ((kept [w] every).map .int)) (kcall (ls := [w]) (by simp) hev rfl (ev_list (evs_cons (ev_name (by keq_rows)) evs_nil rfl) (Nat.le_of_ble_eq_true rfl)) (ev_name (by keq_rows)) rfl rfl) (by kas_types) (.inl rfl) rfl ?_
  cases hc2 : within (kept ([l] ++ told) every) (kept [w] every)
  case false =>
    refine ex_ifRet (b := !within (kept ([l] ++ told) every) (kept [w] every)) ?_ (by rw [hc2]; rfl) ?_
    · refine ts_not (Ev.toTs (wcall (Nat.le_trans (keptLen _ _) hev) rfl (kcall (by simp; omega) hev rfl ?_ (ev_name (by keq_rows)) rfl rfl) (ev_name (by keq_rows)) rfl rfl))
      rw [List.map_append]
      exact ev_bin (ev_list (evs_cons (ev_name (by keq_rows)) evs_nil rfl) (Nat.le_of_ble_eq_true rfl)) (ev_name (by keq_rows)) (bo_addL (by simp; omega))
    · refine ex_ret (d := .bool false) (by lcg_src) ?_
      unfold eldersRight; rw [if_neg (by rw [hc1]; decide), hc2]; rfl
  refine ex_ifSkip (b := !within (kept ([l] ++ told) every) (kept [w] every)) ?_ (by rw [hc2]; rfl) ?_
  · refine ts_not (Ev.toTs (wcall (Nat.le_trans (keptLen _ _) hev) rfl (kcall (by simp; omega) hev rfl ?_ (ev_name (by keq_rows)) rfl rfl) (ev_name (by keq_rows)) rfl rfl))
    rw [List.map_append]
    exact ev_bin (ev_list (evs_cons (ev_name (by keq_rows)) evs_nil rfl) (Nat.le_of_ble_eq_true rfl)) (ev_name (by keq_rows)) (bo_addL (by simp; omega))
  refine ex_cons (N₁ := fun ρ' => right3 l told every (kept [w] every) told.length = true ∧ ρ' = ([("due", .val (.list ((kept [w] every).map .int))), ("told", .val (.list (told.map litD))), ("literal", .val (litD l)), ("lot", .val (.list (lot.map .int))), ("wanted", .val (litD w)), ("every", .val (.list (every.map .int)))] : Rho))
    (Ex1.imp ?_ (fun _ _ h => h) (for_range (a := 0) (b := (told.length : Int)) (fun pre ρ' => right3 l told every (kept [w] every) pre.length = true ∧ ρ' = ([("due", .val (.list ((kept [w] every).map .int))), ("told", .val (.list (told.map litD))), ("literal", .val (litD l)), ("lot", .val (.list (lot.map .int))), ("wanted", .val (litD w)), ("every", .val (.list (every.map .int)))] : Rho))
      ?_ (by decide) (by decide) (by omega) (by omega) ⟨rfl, rfl⟩ ?_ ?_)) ?_
  · rintro ρ' ⟨h1, h2⟩
    rw [rangeD_len] at h1
    refine ⟨?_, h2⟩
    have : ((told.length : Int) - 0).toNat = told.length := by omega
    rwa [this] at h1
  · refine rg_call (ds := [.int (told.length : Int)]) rfl (evs_cons ?_ evs_nil rfl) (.inl ⟨rfl, rfl⟩) rfl
    have := cl_len (W := W) (A := A) (fe := envOfC r_law_elders_right.name r_law_elders_right.scope L a' cd) (lev := lev) (l := told.map litD) (by rw [List.length_map]; omega)
    rw [List.length_map] at this
    exact ev_callB (id := "len") rfl (by decide) (by boot_by_name) (evs_cons (ev_name (by keq_rows)) evs_nil rfl) this
  · rintro pre z post ρ' hds ⟨hr3, rfl⟩
    have hz : z = .int ((pre.length : Nat) : Int) := by
      have h1 : (rangeD 0 (told.length : Int))[pre.length]? = some z := by rw [hds]; simp
      have h2 : pre.length < (rangeD 0 (told.length : Int)).length := by rw [hds]; simp
      rw [rangeD_len] at h2
      rw [rangeD_get h2] at h1
      have := Option.some.inj h1
      rw [← this, Int.zero_add]
    have hlt : pre.length < told.length := by
      have h2 : pre.length < (rangeD 0 (told.length : Int)).length := by rw [hds]; simp
      rw [rangeD_len] at h2; omega
    subst hz
    refine ⟨_, tg_name (by kas_types), ?_⟩
    refine ex_ifTail (b := within (kept ([l] ++ told.take pre.length ++ told.drop (pre.length + 1)) every) (kept [w] every)) ?_ (fun h => ?_) fun h => ?_
    · refine Ev.toTs (wcall (Nat.le_trans (keptLen _ _) hev) rfl (kcall (by simp; omega) hev rfl ?_ (ev_name (by keq_rows)) rfl rfl) (ev_name (by keq_rows)) rfl rfl)
      rw [List.map_append, List.map_append, List.map_take, List.map_drop]
      refine ev_bin (ev_bin (ev_list (evs_cons (ev_name (by keq_rows)) evs_nil rfl) (Nat.le_of_ble_eq_true rfl)) (ev_sliceTo (ev_name (by keq_rows)) (ev_name (by keq_rows)) ?_) (bo_addL ?_)) (ev_sliceFrom (ev_name (by keq_rows)) (ev_bin (ev_name (by keq_rows)) ev_int bo_add) ?_) (bo_addL ?_)
      all_goals (simp; omega)
    · refine ex_ret (d := .bool false) (by lcg_src) ?_
      have hf : right3 l told every (kept [w] every) told.length = false := by
        cases hq : right3 l told every (kept [w] every) told.length
        · rfl
        · have := (List.all_eq_true.mp hq) pre.length (List.mem_range.mpr hlt)
          rw [h] at this; cases this
      unfold eldersRight; rw [if_neg (by rw [hc1]; decide), if_neg (by rw [hc2]; decide), hf]; rfl
    · refine ex_nil ⟨_, fun p hp => .tail _ hp, ?_, rfl⟩
      unfold right3 at hr3 ⊢
      rw [List.length_append, List.length_singleton, List.range_succ, List.all_append, hr3]
      simp only [List.all_cons, List.all_nil, Bool.and_true, Bool.true_and, h]
      rfl
  · exact fun _ => rfl
  rintro ρ' ⟨hr3, rfl⟩
  refine ex_ret (d := .bool ((told == []) == implB l.1 l.2.1 l.2.2 w.1 w.2.1 w.2.2)) (ev_cmp (d₁ := .bool (told == [])) (d₂ := .bool (implB l.1 l.2.1 l.2.2 w.1 w.2.1 w.2.2)) (ev_cmp (d₁ := .list (told.map litD)) (d₂ := .list (([] : List Lit).map litD)) (ev_name (by keq_rows)) (by lcg_src) co_eqLits rfl) ?_ co_eqB rfl) ?_
  · exact ev_call r_implies recIs_mem rfl rfl (evs_cons (d := lit l.1 l.2.1 l.2.2) (ev_name (by keq_rows)) (evs_cons (d := lit w.1 w.2.1 w.2.2) (ev_name (by keq_rows)) evs_nil rfl) rfl) implies_fn (by omega) rfl rfl
  · unfold eldersRight; rw [if_neg (by rw [hc1]; decide), if_neg (by rw [hc2]; decide), if_neg (by rw [hr3]; decide)]
section
variable {W : Wd} {A : Around} {fe : Env} {lev : Nat} {g : Heap} {M : List Addr} {ρ ρ' : Rho} {Nx : Rho → Prop} {Rt : Rho → PyData → Prop} {h h' : Heap}
noncomputable def Xv (W : Wd) (A : Around) (fe : Env) (lev : Nat) (g : Heap) (M : List Addr) (ρ : Rho) (e : Expr) (PP : PyData → Prop) : Prop :=
  ∀ (s : Shared) (Q : Value → Shared → Prop) (E : Value → Shared → Prop), St W A fe lev g M ρ s.heap →
    (∀ v d h' tk, PP d → Le s.heap h' → RdOff M h' v d → Q v { s with heap := h', toks := tk }) → wpAny (model W.prog W.w) A (eval e fe) Q E s
theorem xs_v {e : Expr} {es : List Expr} {P₁ : PyData → Prop} {PP : List Addr → Rho → List Ent → Prop} (x : Xv W A fe lev g M ρ e P₁) (y : ∀ d, P₁ d → Xs W A fe lev g M ρ es fun M' ρ' ents => PP M' ρ' (.val d :: ents))
    (he : starEach (e :: es) fe = (false, eval e fe) :: starEach es fe) : Xs W A fe lev g M ρ (e :: es) PP := by
  intro pos s Q E S k
  refine spliced_more (x s _ E S fun v d h₁ tk₁ p₁ l₁ ro => ?_) he
  have S₁ := S.up l₁
  refine y d p₁ pos { s with heap := h₁, toks := tk₁ } _ E S₁ fun vs h' tk M' ρ' ents p gr f S' en => ?_
  exact k (v :: vs) h' tk M' ρ' _ p ⟨gr.1, fun b hb => (gr.2 b hb).imp id fun hn => none_fp S₁ (Fp.of l₁) hn⟩ ((Fp.of l₁).trans f) S' (.cons (ro.grown S₁ gr f) en)
theorem zs_imm : ∀ {ns : List Int}, imm.immAll (ns.map .int) = true
  | [] => rfl
  | _ :: _ => by simp only [List.map_cons, imm.immAll, imm, zs_imm, Bool.and_self]
noncomputable def GoodCells (ns : List Int) : Prop := ns ≠ [] ∧ ns.length ≤ 51 ∧ ∀ n ∈ ns, 0 ≤ n ∧ n < 1000003
theorem src_item {x : Str} {np kp pos : Pos} {kk : Nat} {y : Str} {a : Addr} {k : Nat × Addr} {v : Value} {s : Shared} {Q : Value → Shared → Prop} {E : Value → Shared → Prop} (S : St W A fe lev g M ρ s.heap) (hm : (x, Ent.src a k) ∈ ρ)
    {kvs : List (Str × Value)} (hd : s.heap.DictOf (strKind W.prog W.w) a kvs) (hv : valueAt kvs y = some v) (hq : ∀ tk, Q v { s with toks := tk }) :
    wpAny (model W.prog W.w) A (eval (.Subscript (.Name x np) (.Constant (.str y) kk kp) pos) fe) Q E s := by
  refine Subscript_ (src_name S hm ?_)
  refine wpAny_Constant_str ?_
  exact tail_any (T := "dict") (Q := Q) (s := { s with toks := s.toks + 1 }) hd.typeIs slot_dict_getitem.lookup (wpAny_getItem_of (s := { s with toks := s.toks + 1 }) (strKind_is W.prog W.w y _) hd.mapOf hv (hq _)) rfl
theorem xv_cells {x : Str} {np kp pos : Pos} {kk : Nat} {a : Addr} {k : Nat × Addr} (hm : (x, Ent.src a k) ∈ ρ) : Xv W A fe lev g M ρ (.Subscript (.Name x np) (.Constant (.str "cells") kk kp) pos) (fun d => ∃ ns, d = .list (ns.map .int) ∧ GoodCells ns) := by
  intro s Q E S kk
  obtain ⟨v, _, rfl, haM, c, t, vs, ns, d, hc, hl, hI, h1, h2, h3, h4⟩ := S.ents _ hm
  refine src_item S hm d (v := .ref c) (by rfl) fun tk => kk _ _ s.heap tk ⟨ns, rfl, h1, h2, h3⟩ (Le.refl _) ?_
  obtain ⟨as, r, w⟩ := rd_of_intsAre hI (h := s.heap)
  obtain ⟨o, e1, e2, n, e3⟩ := hl
  have has : as = [] := immAll_as r zs_imm
  subst has
  refine ⟨_, .list e1 e2 e3 r, fun b hb => ?_⟩
  obtain rfl := List.mem_singleton.mp hb
  exact ⟨⟨o, vs, n, e1, e3⟩, hc⟩
theorem xv_spot {x : Str} {np kp pos : Pos} {kk : Nat} {a : Addr} {k : Nat × Addr} (hm : (x, Ent.src a k) ∈ ρ) : Xv W A fe lev g M ρ (.Subscript (.Name x np) (.Constant (.str "spot") kk kp) pos) (fun d => d = .int (k.1 : Int)) := by
  intro s Q E S kk
  obtain ⟨v, _, rfl, haM, c, t, vs, ns, d, _⟩ := S.ents _ hm
  refine src_item S hm d (v := .int (k.1 : Int) t) (by rfl) fun tk => kk _ _ s.heap tk rfl (Le.refl _) ⟨[], .int _ _, fun _ h => nomatch h⟩
theorem St.src' {x : Str} {a : Addr} {k k' : Nat × Addr} (S : St W A fe lev g M ρ h) (hm : (x, Ent.src a k) ∈ ρ) (kp : ∀ b o, b ≠ a → h.get? b = some o → h'.get? b = some o) (hs : IsSrc W M h' a k') :
    St W A fe lev g M ((x, .src a k') :: dropSrc ρ) h' := by
  obtain ⟨v, hv, rfl, haM, c, t, vs, ns, d, hc, hl, hI, h1, h2, h3, h4⟩ := S.ents _ hm
  obtain ⟨ag, aL, _⟩ := S.mov a haM
  obtain ⟨oa, es, ep, ea, qa⟩ := dictOf_ex d
  obtain ⟨m, F⟩ := S.fr
  have hn : h'.Ns fe.locals m := F.ns.at' fun o e => kp _ o (Ne.symm aL) e
  have notcell : ∀ c v, h.IsCell c v → c ≠ a := fun c v ⟨o, e, d⟩ hc => by
    rw [hc, ea] at e; cases e; rw [qa] at d; cases d
  have cell : ∀ c v, h.IsCell c v → h'.IsCell c v := fun c v ci => by
    have hne := notcell c v ci
    obtain ⟨o, e, d⟩ := ci
    exact ⟨o, kp c o hne e, d⟩
  have hasvar : ∀ y u, HasVar fe h y u → HasVar fe h' y u := fun y u ⟨a1, a2, a3⟩ => by
    refine ⟨a1, a2, ?_⟩
    rcases a3 with ⟨b1, m', b2, b3⟩ | ⟨b1, c, b2, b3⟩
    · exact .inl ⟨b1, m', b2.at' fun o e => kp _ o (Ne.symm aL) e, b3⟩
    · exact .inr ⟨b1, c, b2, cell _ _ b3⟩
  have sq : ∀ b o xs n, h.get? b = some o → o.data = .seq xs n → h'.get? b = some o := fun b o xs n e q => kp b o (fun hb => by rw [hb, ea] at e; cases e; rw [qa] at q; cases q) e
  refine { S with fr := ⟨m, hn, fun b o e => kp b o (fun q => by rw [q, ag] at e; cases e) (F.keep b o e), F.above⟩, cells := fun y c e => ?_, mov := fun b hb => ?_, ents := fun p hp' => ?_ }
  · obtain ⟨q1, q2, v, ci⟩ := S.cells y c e
    exact ⟨q1, q2, v, cell _ _ ci⟩
  · obtain ⟨q1, q2, o, e, r⟩ := S.mov b hb
    by_cases hba : b = a
    · subst hba
      obtain ⟨c, t, vs, ns, ⟨o', es', ep', e', c', q', _⟩, _⟩ := hs
      exact ⟨q1, q2, o', e', fun v hd => (by rw [q'] at hd; cases hd), fun hd => (by rw [c'.1] at hd; simp at hd)⟩
    · exact ⟨q1, q2, o, kp b o hba e, r⟩
  · rcases List.mem_cons.mp hp' with rfl | hp'
    · exact ⟨_, hasvar _ _ hv, rfl, haM, hs⟩
    · obtain ⟨hin, hno⟩ := of_dropSrc hp'
      obtain ⟨u, hu, en⟩ := S.ents p hin
      refine ⟨u, hasvar _ _ hu, ?_⟩
      obtain ⟨y, e⟩ := p
      cases e with
      | val d =>
        obtain ⟨as, r, w⟩ := en
        refine ⟨as, reads_but r (fun _ h => h) (fun b hb => (w b hb).1) fun b o xs n e q _ => sq b o xs n e q, fun b hb => ⟨?_, (w b hb).2⟩⟩
        obtain ⟨o, xs, n, e, q⟩ := (w b hb).1
        exact ⟨o, xs, n, sq b o xs n e q, q⟩
      | own b ds =>
        obtain ⟨e1, hbM, vs, ⟨n, e2⟩, r⟩ := en
        exact ⟨e1, hbM, vs, ⟨n, sq b _ _ _ e2 rfl⟩, readsAll_but r (fun _ h => h) (fun _ h => nomatch h) fun b o xs n e q _ => sq b o xs n e q⟩
      | src b n => exact absurd rfl (hno b n)
theorem ex1_setSrc {x : Str} {np kp sp pos : Pos} {kk : Nat} {value : Expr} {a : Addr} {k : Nat × Addr} (hm : (x, Ent.src a k) ∈ ρ) (he : Ev W A fe lev fe (vals ρ) value (.int ((k.1 + 1 : Nat) : Int)))
    (hs : swapsWith value (some (.Subscript (.Name x np) (.Constant (.str "spot") kk kp) sp)) pos.line fe = pure false) :
    Ex1 W A fe lev g M ρ (.Assign [.Subscript (.Name x np) (.Constant (.str "spot") kk kp) sp] value pos) (· = (x, .src a (k.1 + 1, k.2)) :: dropSrc ρ) Rt := by
  intro s Q E S kq _
  refine wpAny_Assign_Subscript (he s _ E S.ok S.vars fun v h₁ tk l r => ?_) hs
  obtain ⟨u, rfl⟩ := r.int
  have S1 := S.up l
  refine src_name (s := { s with heap := h₁, toks := tk }) S1 hm ?_
  refine wpAny_Constant_str ?_
  obtain ⟨v, _, rfl, haM, c, t, vs, ns, d, hc, hl, hI, h1, h2, h3, h4⟩ := S1.ents _ hm
  refine wpAny_setItem_pairs (s := { s with heap := h₁, toks := tk + 1 }) (strKind_is W.prog W.w "spot" _) d (fun h₂ d2 s2 => ?_) (Nat.le_of_ble_eq_true rfl)
  have keep : ∀ b o, b ≠ a → h₁.get? b = some o → h₂.get? b = some o := fun b o hb e => s2.extBut b o hb e
  have hst : stored [(Str.ofString "cells", Value.ref c), (Str.ofString "spot", .int (k.1 : Int) t)] (Str.ofString "spot") (.int ((k.1 + 1 : Nat) : Int) u) = [(Str.ofString "cells", .ref c), (Str.ofString "spot", .int ((k.1 + 1 : Nat) : Int) u)] := by
    have e1 : (Str.ofString "cells" = Str.ofString "spot") = False := by simp only [eq_iff_iff, iff_false]; decide +kernel
    simp [stored, e1]
  rw [hst] at d2
  refine kq _ h₂ _ rfl (fun b o e _ _ hb => keep b o (fun e' => hb (e' ▸ haM)) (l _ _ e)) (S1.src' hm keep ⟨c, u, vs, ns, d2, hc, ?_, hI, h1, h2, h3, h4⟩)
  obtain ⟨o, e1, e2, n, e3⟩ := hl
  obtain ⟨oa, es, ep, ea, qa⟩ := dictOf_ex d
  exact ⟨o, keep c o (fun e => by rw [e, ea] at e1; cases e1; rw [qa] at e3; cases e3) e1, e2, n, e3⟩
end
section
variable {W : Wd} {A : Around} {fe : Env} {lev : Nat}
theorem bo_mul {a b : Int} (hm : IntMulOk a b) : Bo W A fe lev .Mult (.int a) (.int b) (.int (a * b)) := by
  intro v₁ v₂ s Q E ok r₁ r₂ k
  obtain ⟨t, rfl⟩ := r₁.int
  obtain ⟨u, rfl⟩ := r₂.int
  exact P.mul_int (k _ s.heap _ (Le.refl _) (Rd.ofInt _ _)) hm
theorem bo_fdiv {a b : Int} (hb : b ≠ 0) (hs : b.natAbs < 1073741824) : Bo W A fe lev .FloorDiv (.int a) (.int b) (.int (a.fdiv b)) := by
  intro v₁ v₂ s Q E ok r₁ r₂ k
  obtain ⟨t, rfl⟩ := r₁.int
  obtain ⟨u, rfl⟩ := r₂.int
  exact floordiv_int hb (k _ s.heap _ (Le.refl _) (Rd.ofInt _ _)) (.inl (PyProof.noPylong_small hs))
end
theorem keep_src {M : List Addr} {x : Str} {a : Addr} {k : Nat × Addr} (ha : a ∈ M) : ∀ {ρ : Rho}, (x, Ent.src a k) ∈ ρ → (x, Ent.src a k) ∈ keepOf M ρ
  | (y, .val d) :: r, h => by
    rcases List.mem_cons.mp h with e | h
    · cases e
    · exact .tail _ (keep_src ha h)
  | (_, .own _ _) :: r, h => by
    rcases List.mem_cons.mp h with e | h
    · cases e
    · exact keep_src (ρ := r) ha h
  | (y, .src b j) :: r, h => by
    unfold keepOf
    rcases List.mem_cons.mp h with e | h
    · cases e
      rw [if_pos ha]
      exact .head _
    · split
      · exact .tail _ (keep_src ha h)
      · exact keep_src (ρ := r) ha h
theorem draw_at {W : Wd} (A : Around) (L c : Addr) (cd : Value) (g : Heap) (lev : Nat) (M : List Addr) (a : Addr) (k : Nat × Addr) (m : Int) (hk : k.1 ≤ 100) (hm : 0 < m) (hm' : m < 1000) (ha : a ∈ M) :
    Ex W A (envOfC r_law_draw.name r_law_draw.scope L c cd) lev g M [("src", .src a k), ("many", .val (.int m))] r_law_draw.body
      (fun _ => False) (fun ρ' d => (("src" : Str), Ent.src a (k.1 + 1, k.2)) ∈ ρ' ∧ ∃ i, d = .int i ∧ 0 ≤ i ∧ i < m) := by
  refine ex_body ?_ rfl
  refine ex_swapX (PP := fun M' ρ' ents => M' = M ∧ ρ' = ([("src", .src a k), ("many", .val (.int m))] : Rho) ∧ ∃ ns, ents = [.val (.list (ns.map .int)), .val (.int (k.1 : Int))] ∧ GoodCells ns)
    (xs_v (xv_cells (.head _)) (fun d ⟨ns, hd, hns⟩ => xs_v (xv_spot (.head _)) (fun d' hd' => xs_nil ⟨rfl, rfl, ns, by rw [hd, hd'], hns⟩) rfl) rfl) ?_ rfl rfl (by decide)
  rintro M' ρ' ents ⟨rfl, rfl, ns, rfl, hns⟩
  refine ⟨rfl, .cons (by kas_types) (.cons (by kas_types) .nil), ?_⟩
  obtain ⟨h1, h2, h3⟩ := hns
  have hpos : 0 < ns.length := List.length_pos_iff.mpr h1
  refine ex_cons (ex1_setSrc (a := a) (k := k) (.tail _ (.tail _ (.head _))) (ev_bin (ev_name (.tail _ (.head _))) ev_int bo_add) rfl) ?_
  rintro ρ' rfl
  have hlen : ∀ {fe : Env} {σ : List (Str × PyData)} {env : Env} {np xp cp : Pos}, (("cells" : Str), PyData.list (ns.map .int)) ∈ σ → env.kindOf "len" = some .globalImplicit → Ev W A fe lev env σ (.Call (.Name "len" np) [.Name "cells" xp] [] cp) (.int (ns.length : Int)) := by
    intro fe' σ env np xp cp hm hk
    have := cl_len (W := W) (A := A) (fe := fe') (lev := lev) (l := ns.map .int) (by rw [List.length_map]; exact Nat.le_trans h2 (by decide))
    rw [List.length_map] at this
    exact ev_callB (id := "len") hk (by decide) (by boot_by_name) (evs_cons (ev_name hm) evs_nil rfl) this
  have hn0 : (ns.length : Int) ≠ 0 := by omega
  have hf0 : 0 ≤ (k.1 : Int).fmod (ns.length : Int) := Int.fmod_nonneg_of_pos _ (by omega)
  have hf1 : (k.1 : Int).fmod (ns.length : Int) < ns.length := Int.fmod_lt_of_pos _ (by omega)
  obtain ⟨z, hz⟩ : ∃ z, ns[((k.1 : Int).fmod (ns.length : Int)).toNat]? = some z := ⟨_, List.getElem?_eq_getElem (by omega)⟩
  refine ex_ret (d := .int ((z + (k.1 : Int).fdiv (ns.length : Int) * (2 * (k.1 : Int) + 1)).fmod m)) ?_ ⟨keep_src ha (.head _), _, rfl, Int.fmod_nonneg_of_pos _ hm, Int.fmod_lt_of_pos _ hm⟩
  refine ev_bin (ev_bin (ev_itemL (k := (k.1 : Int).fmod (ns.length : Int)) (l := ns.map .int) (ev_name (.head _)) (ev_bin (ev_name (.tail _ (.head _))) (hlen (.head _) rfl) (bo_mod hn0)) hf0 ?_ (by omega) fun _ _ => rfl)
    (ev_bin (ev_bin (ev_name (.tail _ (.head _))) (hlen (.head _) rfl) (bo_fdiv hn0 (by omega))) (ev_bin (ev_bin ev_int (ev_name (.tail _ (.head _))) (bo_mul ?_)) ev_int bo_add) (bo_mul ?_)) bo_add) (ev_name (by keq_rows)) (bo_mod (by omega))
  · rw [List.getElem?_map, hz]; rfl
  · exact IntMulOk.of_left (intBits_le_64 (by omega) (by omega))
  · exact IntMulOk.of_right (intBits_le_64 (by omega) (by omega))
section
variable {W : Wd} {A : Around} {fe : Env} {lev : Nat} {g : Heap} {M : List Addr} {ρ ρ' : Rho} {Nx : Rho → Prop} {Rt : Rho → PyData → Prop} {h h' : Heap}
theorem xi_draw {x : Str} {np xp pos : Pos} {e₂ : Expr} {a : Addr} {k : Nat × Addr} {m : Int} (hlev : 0 < lev) (hm : (x, Ent.src a k) ∈ ρ) (h2 : Ev W A fe lev fe (vals ρ) e₂ (.int m)) (hk1 : k.1 ≤ 100) (hm0 : 0 < m) (hm1 : m < 1000)
    (hk : fe.kindOf "_law_draw" = some .globalImplicit) (a0 : starEach [.Name x xp, e₂] fe = (false, eval (.Name x xp) fe) :: starEach [e₂] fe) (a1 : starEach [e₂] fe = (false, eval e₂ fe) :: starEach [] fe) :
    Xi W A fe lev g M ρ (.Call (.Name "_law_draw" np) [.Name x xp, e₂] [] pos) (fun i ρ' => 0 ≤ i ∧ i < m ∧ ρ' = (x, .src a (k.1 + 1, k.2)) :: dropSrc ρ) := by
  intro s Q E S kq
  have T := S.ok.top
  obtain ⟨c, o, pm, code, doc, g1, g2, g3, g4⟩ := top_fn T S.knows (r := r_law_draw) recIs_mem
  refine PyProof.Rows.Call_ (Name_function_global S.kind hk (loadGlobal_global (by rw [S.globs]; exact T.g) g1 ?_) (by decide))
  refine callWith_function (o := o) (fd := docDef r_law_draw.name r_law_draw.params r_law_draw.body r_law_draw.scope pm code doc) ?_
  have args : ∀ (Q' : List Value → Shared → Prop) (E' : Value → Shared → Prop), (∀ v₂ h₂ t₂, Le s.heap h₂ → Rd h₂ v₂ (.int m) → Q' [.ref a, v₂] { s with heap := h₂, toks := t₂ }) →
      wpAny (model W.prog W.w) A (spliced (backTo pos (starEach [.Name x xp, e₂] fe))) Q' E' s := fun Q' E' kk => by
    refine spliced_more (src_name S hm ?_) a0
    refine spliced_more (h2 s _ E' S.ok S.vars fun v₁ h₁ t₁ l₁ r₁ => ?_) a1
    exact spliced_none (kk v₁ h₁ t₁ l₁ r₁)
  rw [a0] at args ⊢
  refine evalArgs_plain (args _ E fun v₂ h₂ t₂ l₂ r₂ => ⟨⟨l₂ _ _ g2, g3⟩, ?_⟩)
  have S2 := S.up l₂
  obtain ⟨_, _, _, haM, hs⟩ := S2.ents _ hm
  obtain ⟨ag, aL, _⟩ := S2.mov a haM
  obtain ⟨A₀, base, outer, B, hA⟩ := S.ctx
  obtain ⟨m', F⟩ := S2.fr
  have hs0 := hs
  obtain ⟨cc, t, vs, ns, d, hc, hl, hI, q1, q2, q3, q4⟩ := hs
  obtain ⟨oa, es, ep, ea, qa⟩ := dictOf_ex d
  obtain ⟨od, es', ep', ed, exd, qd', _⟩ := id d
  refine wpAny_call (enter (s := { s with heap := h₂, toks := t₂ }) def_law_draw S.knows S.hand S.kind S.depth S.units B F hA S.frame S.top rfl g1 hlev (hid := [a]) (fun b hb => ?_) fun L' c' cd' h₃ tk₃ l₃ mk => ?_)
  · obtain rfl := List.mem_singleton.mp hb
    exact ⟨⟨_, ea⟩, ag, aL⟩
  · have S3 := mk [("src", .src a k), ("many", .val (.int m))] (fun p hp => ?_) (fun b hb => ?_)
    · refine draw_at (A.deeper _) L' c' cd' _ _ [a] a k m hk1 hm0 hm1 (.head _) { s with heap := h₃, toks := tk₃ } _ _ S3 (fun ρ' h₄ tk₄ hN f₄ S4 => hN.elim) fun v d ρ' h₄ tk₄ hR S4 rd => ?_
      obtain ⟨hin, i, rfl, hi0, hi1⟩ := hR
      obtain ⟨u, rfl⟩ := rd.int
      have keep : ∀ b o, b ≠ a → h₂.get? b = some o → h₄.get? b = some o := fun b o hb e => S4.le b o (hideAll_get _ e (by simpa using hb))
      obtain ⟨_, _, _, _, cc', t', vs', ns', d', hc', hl', hI', p1, p2, p3, p4⟩ := S4.ents _ hin
      have hcc : cc' ∉ M := by rw [p4, ← q4]; exact hc
      have S5 := S2.src' hm keep ⟨cc', t', vs', ns', d', hcc, hl', hI', p1, p2, p3, p4⟩
      exact kq i u _ h₄ tk₄ ⟨hi0, hi1, rfl⟩ (fun b o e _ _ hb => keep b o (fun e' => hb (e' ▸ haM)) (l₂ _ _ e)) S5
    · simp only [List.mem_cons, List.not_mem_nil, or_false] at hp
      rcases hp with rfl | rfl
      · have hs3 := EntIs.up (W := W) (M := M) (v := .ref a) (e := .src a k) l₃ ⟨rfl, haM, hs0⟩
        obtain ⟨_, _, cc3, t3, vs3, ns3, d3, hc3, r3⟩ := hs3
        exact ⟨_, .head _, rfl, .head _, cc3, t3, vs3, ns3, d3, fun hb => hc3 (by rw [List.mem_singleton.mp hb]; exact haM), r3⟩
      · exact ⟨_, .tail _ (.head _), (r₂.up l₃).offI rfl⟩
    · obtain rfl := List.mem_singleton.mp hb
      exact ⟨_, l₃ _ _ ed, fun v hd => (by rw [qd'] at hd; cases hd), fun hd => (by rw [exd.1] at hd; simp at hd)⟩

theorem xi_mul {l r : Expr} {pos : Pos} {PP : Int → Rho → Prop} (x : Xi W A fe lev g M ρ l fun i ρ₁ => Xi W A fe lev g M ρ₁ r fun j ρ₂ => IntMulOk i j ∧ PP (i * j) ρ₂) : Xi W A fe lev g M ρ (.BinOp l .Mult r pos) PP := by
  intro s Q E S k
  refine wpAny_BinOp (x s _ E S fun i t ρ₁ h₁ tk₁ p₁ f₁ S₁ => ?_)
  refine p₁ { s with heap := h₁, toks := tk₁ } _ E S₁ fun j u ρ₂ h₂ tk₂ p₂ f₂ S₂ => ?_
  exact P.mul_int (k _ _ ρ₂ h₂ _ p₂.2 (f₁.trans f₂) S₂) p₂.1
theorem ex_setXi {x : Str} {px pos : Pos} {e : Expr} {rest : List Stmt} {PP : Int → Rho → Prop} (he : Xi W A fe lev g M ρ e PP) (k : ∀ i ρ₁, PP i ρ₁ → ∃ ρ₂, (∀ p ∈ ρ₂, p ∈ ρ₁) ∧ Nm fe ρ₂ x ∧ Ex W A fe lev g M ((x, .val (.int i)) :: ρ₂) rest Nx Rt)
    (hs : swapsWith e (some (.Name x px)) pos.line fe = pure false) : Ex W A fe lev g M ρ (.Assign [.Name x px] e pos :: rest) Nx Rt := by
  intro s Q E S kN kR
  refine wpAny_execs_cons (wpAny_Assign_Name (he s _ E S fun i t ρ₁ h₁ tk₁ pp f₁ S₁ => ?_) hs)
  obtain ⟨ρ₂, sub, n, ex⟩ := k i ρ₁ pp
  refine (S₁.sub sub).store (s := { s with heap := h₁, toks := tk₁ }) (e := .val (.int i)) n.kind ⟨[], .int i t, fun _ h => nomatch h⟩ n.new n.h1 n.h2 fun h₂ tk₂ f₂ S₂ => ?_
  exact ex { s with heap := h₂, toks := tk₂ } _ _ S₂ (fun ρ' h' tk' hn f' S' => kN ρ' h' tk' hn ((f₁.trans f₂).trans f') S') kR
theorem ex_appendXi {x : Str} {np apos cpos pos : Pos} {elt : Expr} {rest : List Stmt} {a : Addr} {ds : List PyData} {PP : Int → Rho → Prop} (hm : (x, Ent.own a ds) ∈ ρ) (he : Xi W A fe lev g M ρ elt PP) (hsz : ds.length < sizeLine)
    (k : ∀ i ρ₁, PP i ρ₁ → (x, Ent.own a ds) ∈ ρ₁ ∧ Ex W A fe lev g M ((x, .own a (ds ++ [.int i])) :: dropOwn ρ₁) rest Nx Rt)
    (hbase : attributeBase (.Name x np) "append" fe (eval (.Name x np) fe) = eval (.Name x np) fe)
    (hfew : ((backTo cpos (starEach [elt] fe)).all (fun x => !x.1) && (backToKw cpos (keywordEach [] fe)).all (fun x => x.1.isSome)
      && decide (([elt] : List Expr).length + ([] : List Keyword).length + (if ([] : List Keyword).isEmpty then 0 else 1) < 30)) = true)
    (hline : (apos.endLine == cpos.line) = true) (htrees : backTo cpos (starEach [elt] fe) = [(false, eval elt fe)])
    (hint : interactive fe = false) (hsw : swapsWith (.Call (.Attribute (.Name x np) "append" apos) [elt] [] cpos) none pos.line fe = pure false) :
    Ex W A fe lev g M ρ (.Expr (.Call (.Attribute (.Name x np) "append" apos) [elt] [] cpos) pos :: rest) Nx Rt := by
  intro s Q E S kN kR
  refine wpAny_execs_cons (wpAny_Expr (wpAny_Call_append hbase hfew hline htrees (own_name S hm ?_)) hint hsw)
  obtain ⟨_, _, _, haM, vs0, ⟨n0, o0⟩, r0⟩ := S.ents _ hm
  refine ⟨a, vs0, rfl, ⟨_, n0, o0, rfl, rfl, rfl⟩, he _ _ E S fun i t ρ₁ h₁ tk₁ pp f₁ S₁ => ?_⟩
  obtain ⟨hm1, ex⟩ := k i ρ₁ pp
  obtain ⟨_, _, _, _, vs1, p1, r1⟩ := S₁.ents _ hm1
  have hlen : vs1.size = ds.length := by
    have : RdAll h₁ vs1.toList ds := ⟨_, r1, fun _ h => nomatch h⟩
    simpa using this.length
  refine wpAny_list_append_plain (s := { s with heap := h₁, toks := tk₁ }) p1 (fun h₂ hp hs => ?_) (by omega)
  have S2 := S₁.own (ds' := ds ++ [.int i]) hm1 hp hs (by rw [Array.toList_push]; exact readsAll_nil_append r1 (.int i t))
  have f2 : Fp fe M h₁ h₂ := fun b o e _ _ hb => hs.extBut b o (fun e' => hb (e' ▸ haM)) e
  exact ex { s with heap := h₂, toks := tk₁ } _ _ S2 (fun ρ' h' tk' hn f' S' => kN ρ' h' tk' hn ((f₁.trans f2).trans f') S') kR
end
noncomputable def stepOf (ns : List Int) (step : Int) : List Int := if step > 0 ∧ ns.getLastD 0 + step < 8 then ns ++ [ns.getLastD 0 + step] else ns
noncomputable def lots0 : List (List Int) := [(0 : Int), 1].flatMap fun x => [(0 : Int), 1].flatMap fun u => [(0 : Int), 1].map fun w => [x, x + 1 + u * (1 + w)]
noncomputable def lotsN : Nat → List (List Int)
  | 0 => lots0.eraseDups
  | n + 1 => ((lotsN n).flatMap fun ns => [(0 : Int), 1, 2].map (stepOf ns)).eraseDups
theorem lots0_mem {x u w : Int} (hx : 0 ≤ x ∧ x < 2) (hu : 0 ≤ u ∧ u < 2) (hw : 0 ≤ w ∧ w < 2) : [x, x + 1 + u * (1 + w)] ∈ lotsN 0 := by
  have h : ∀ z : Int, 0 ≤ z ∧ z < 2 → z = 0 ∨ z = 1 := fun z hz => by omega
  have : [x, x + 1 + u * (1 + w)] ∈ lots0 := by
    rcases h x hx with rfl | rfl <;> rcases h u hu with rfl | rfl <;> rcases h w hw with rfl | rfl <;> decide
  unfold lotsN
  exact List.mem_eraseDups.mpr this
theorem lotsN_mem {n : Nat} {ns : List Int} {z : Int} (h : ns ∈ lotsN n) (hz : 0 ≤ z ∧ z < 3) : stepOf ns z ∈ lotsN (n + 1) := by
  unfold lotsN
  refine List.mem_eraseDups.mpr (List.mem_flatMap.mpr ⟨ns, h, List.mem_map.mpr ⟨z, ?_, rfl⟩⟩)
  have : z = 0 ∨ z = 1 ∨ z = 2 := by omega
  rcases this with rfl | rfl | rfl <;> decide
theorem lots_ne {n : Nat} : ∀ ns ∈ lotsN n, ns ≠ [] ∧ ns.length ≤ n + 2 := by
  induction n with
  | zero => decide
  | succ n ih =>
    intro ns h
    unfold lotsN at h
    obtain ⟨ms, hm, h⟩ := List.mem_flatMap.mp (List.mem_eraseDups.mp h)
    obtain ⟨z, _, rfl⟩ := List.mem_map.mp h
    obtain ⟨h1, h2⟩ := ih ms hm
    unfold stepOf
    split
    · exact ⟨by simp, by simp; omega⟩
    · exact ⟨h1, by omega⟩
theorem lastD_get {ns : List Int} (h : ns ≠ []) : (ns.map PyData.int)[((-1 : Int) + ((ns.map PyData.int).length : Int)).toNat]? = some (.int (ns.getLastD 0)) := by
  have hp : 0 < ns.length := List.length_pos_iff.mpr h
  have e : ((-1 : Int) + ((ns.map PyData.int).length : Int)).toNat = ns.length - 1 := by rw [List.length_map]; omega
  rw [e, List.getElem?_map]
  have : ns[ns.length - 1]? = some (ns.getLastD 0) := by
    rw [← List.getLast?_eq_getElem?, List.getLastD_eq_getLast?]
    cases hq : ns.getLast? with
    | none => exact absurd (List.getLast?_eq_none_iff.mp hq) h
    | some z => rfl
  rw [this]; rfl
theorem lot_at {W : Wd} (A : Around) (L c : Addr) (cd : Value) (g : Heap) (lev : Nat) (a : Addr) (k : Nat × Addr) (hk : k.1 ≤ 50) (hlev : 0 < lev) :
    Ex W A (envOfC r_law_lot.name r_law_lot.scope L c cd) lev g [a] [("src", .src a k)] r_law_lot.body
      (fun _ => False) (fun ρ' d => (("src" : Str), Ent.src a (k.1 + 7, k.2)) ∈ ρ' ∧ ∃ ns, ns ∈ lotsN 4 ∧ d = .list (ns.map .int)) := by
  have hsz : (5000 : Nat) ≤ sizeLine := by decide
  refine ex_body ?_ rfl
  refine ex_swapX (PP := fun M' ρ' ents => ∃ b x, M' = [b, a] ∧ ρ' = ([("src", .src a (k.1 + 1, k.2))] : Rho) ∧ (0 ≤ x ∧ x < 2) ∧ ents = [.own b [.int x], .val (.int 0)])
    (xs_ent (xe_list1 (xi_draw (a := a) (k := k) (m := 2) hlev (.head _) ev_int (by omega) (by decide) (by decide) rfl rfl rfl) rfl) ?_ rfl) ?_ rfl rfl (by decide)
  · rintro M' ρ' ent ⟨b, x, rfl, ⟨hx0, hx1, rfl⟩, rfl⟩
    exact ⟨[.int 0], by lcg_src, offs_cons (.inr (.inl rfl)) offs_nil, b, x, rfl, rfl, ⟨hx0, hx1⟩, rfl⟩
  rintro M' ρ' ents ⟨b, x, rfl, rfl, hx, rfl⟩
  refine ⟨rfl, .cons (by kas_types) (.cons (by kas_types) .nil), ?_⟩
  refine ex_appendXi (a := b) (ds := [.int x]) (PP := fun i ρ₁ => ∃ u w, (0 ≤ u ∧ u < 2) ∧ (0 ≤ w ∧ w < 2) ∧ i = x + 1 + u * (1 + w) ∧ ρ₁ = ([("src", .src a (k.1 + 3, k.2)), ("found", .own b [.int x]), ("v", .val (.int 0))] : Rho))
    (.head _) (xi_add (xi_ev (i := x + 1) (ev_bin (ev_itemL (k := 0) (l := [.int x]) (ev_name (.head _)) ev_int (by decide) rfl (by decide) fun _ _ => rfl) ev_int bo_add)
      (xi_mul (xi_mono (xi_draw (a := a) (k := (k.1 + 1, k.2)) (m := 2) hlev (by keq_rows) ev_int (by show k.1 + 1 ≤ 100; omega) (by decide) (by decide) rfl rfl rfl) fun u ρ₁ hu => ?_)))) (by show 1 < sizeLine; decide) ?_ rfl rfl rfl rfl rfl rfl
  · obtain ⟨hu0, hu1, rfl⟩ := hu
    refine xi_add (xi_ev (i := 1) ev_int (xi_mono (xi_draw (a := a) (k := (k.1 + 2, k.2)) (m := 2) hlev (.head _) ev_int (by show k.1 + 2 ≤ 100; omega) (by decide) (by decide) rfl rfl rfl) fun w ρ₂ hw => ?_))
    obtain ⟨hw0, hw1, rfl⟩ := hw
    exact ⟨IntMulOk.of_left (intBits_le_64 (by omega) (by omega)), u, w, ⟨hu0, hu1⟩, ⟨hw0, hw1⟩, rfl, rfl⟩
  rintro i ρ₁ ⟨u, w, hu, hw, rfl, rfl⟩
  refine ⟨.tail _ (.head _), ?_⟩
  refine Ex.sub (ρ' := [("found", .own b ([x, x + 1 + u * (1 + w)].map .int)), ("v", .val (.int 0)), ("src", .src a (k.1 + 3, k.2))]) (by keq_rows) ?_
  refine ex_cons (N₁ := fun ρ' => ∃ ns v, ns ∈ lotsN 4 ∧ ρ' = ([("found", .own b (ns.map .int)), ("v", .val (.int v)), ("src", .src a (k.1 + 7, k.2))] : Rho)) (Ex1.imp ?_ (fun _ _ h => h)
    (for_range (a := 0) (b := 4) (fun pre ρ' => ∃ ns v, ns ∈ lotsN pre.length ∧ ρ' = ([("found", .own b (ns.map .int)), ("v", .val (.int v)), ("src", .src a (k.1 + 3 + pre.length, k.2))] : Rho)) ?_ (by decide) (by decide) (by decide) (by decide) ?_ ?_ ?_)) ?_
  · rintro ρ' ⟨ns, v, h1, h2⟩
    rw [rangeD_len] at h1 h2
    exact ⟨ns, v, h1, h2⟩
  · exact rg_call (ds := [.int 4]) rfl (by lcg_src) (.inl ⟨rfl, rfl⟩) rfl
  · exact ⟨_, 0, lots0_mem hx hu hw, rfl⟩
  · rintro pre z post ρ' hds ⟨ns, v, hns, rfl⟩
    have hpre : pre.length < 4 := by
      have h2 : pre.length < (rangeD 0 4).length := by rw [hds]; simp
      rwa [rangeD_len] at h2
    have hz : imm z = true := by
      have : z ∈ rangeD 0 4 := by rw [hds]; simp
      rw [rangeD_ints] at this
      obtain ⟨i, _, rfl⟩ := List.mem_map.mp this
      rfl
    obtain ⟨hne, hlen⟩ := lots_ne ns hns
    have hpos : 0 < ns.length := List.length_pos_iff.mpr hne
    refine ⟨_, tg_name (by kas_types), ?_⟩
    refine ex_setXi (xi_draw (a := a) (k := (k.1 + 3 + pre.length, k.2)) (m := 3) hlev (by keq_rows) ev_int (by show k.1 + 3 + pre.length ≤ 100; omega) (by decide) (by decide) rfl rfl rfl) ?_ rfl
    rintro step ρ₁ ⟨h0, h1, rfl⟩
    refine ⟨[("src", .src a (k.1 + 3 + pre.length + 1, k.2)), ("found", .own b (ns.map .int)), ("v", .val (.int v))], by keq_rows, by kas_types, ?_⟩
    refine ex_reset (d := .int (ns.getLastD 0 + step)) [("step", .val (.int step)), ("src", .src a (k.1 + 3 + pre.length + 1, k.2)), ("found", .own b (ns.map .int))] ?_ (by keq_rows) (by kas_types) (.inr (.inl rfl)) rfl ?_
    · refine ev_bin (ev_itemLneg (l := ns.map .int) (k := -1) (ev_name (by keq_rows)) (ev_neg ev_int) (by decide) (by rw [List.length_map]; omega) (lastD_get hne) (by decide) fun _ _ => rfl) (ev_name (by keq_rows)) bo_add
    refine ex_ifTail (b := decide (step > 0) && (decide (ns.getLastD 0 + step < 8) && true)) ?_ (fun h => ?_) fun h => ?_
    · refine ts_bool (tsa_and ?_ fun _ => tsa_and ?_ fun _ => tsa_and_nil) <;> lcg_src
    · simp only [Bool.and_true, Bool.and_eq_true, decide_eq_true_eq] at h
      refine ex_cons (ex1_append (a := b) (ds := ns.map .int) (d := .int (ns.getLastD 0 + step)) (by keq_rows) (ev_name (.head _)) rfl (by rw [List.length_map]; omega)) fun ρ' e => ex_nil ?_
      have e2 : stepOf ns step = ns ++ [ns.getLastD 0 + step] := by unfold stepOf; rw [if_pos h]
      refine ⟨[("found", .own b ((stepOf ns step).map .int)), ("v", .val (.int (ns.getLastD 0 + step))), ("src", .src a (k.1 + 3 + (pre ++ [z]).length, k.2))], ?_, stepOf ns step, _, by rw [List.length_append]; exact lotsN_mem hns ⟨h0, h1⟩, rfl⟩
      rw [e, e2, List.length_append, List.map_append]
      keq_rows
    · have h' : ¬ (step > 0 ∧ ns.getLastD 0 + step < 8) := by simpa using h
      have e2 : stepOf ns step = ns := by unfold stepOf; rw [if_neg h']
      refine ex_nil ⟨[("found", .own b ((stepOf ns step).map .int)), ("v", .val (.int (ns.getLastD 0 + step))), ("src", .src a (k.1 + 3 + (pre ++ [z]).length, k.2))], ?_, stepOf ns step, _, by rw [List.length_append]; exact lotsN_mem hns ⟨h0, h1⟩, rfl⟩
      rw [e2, List.length_append]
      keq_rows
  · exact fun _ => rfl
  rintro ρ' ⟨ns, v, hns, rfl⟩
  refine ex_ret (d := .list (ns.map .int)) (ev_name (.head _)) ⟨keep_src (.head _) (.tail _ (.tail _ (.head _))), ns, hns, rfl⟩
section
variable {W : Wd} {A : Around} {fe : Env} {lev : Nat} {g : Heap} {M : List Addr} {ρ ρ' : Rho} {Nx : Rho → Prop} {Rt : Rho → PyData → Prop} {h h' : Heap}
noncomputable def Xw (W : Wd) (A : Around) (fe : Env) (lev : Nat) (g : Heap) (M : List Addr) (ρ : Rho) (e : Expr) (PP : PyData → Rho → Prop) : Prop :=
  ∀ (s : Shared) (Q : Value → Shared → Prop) (E : Value → Shared → Prop), St W A fe lev g M ρ s.heap →
    (∀ v d ρ' h' tk, PP d ρ' → Fp fe M s.heap h' → St W A fe lev g M ρ' h' → RdOff M h' v d → Q v { s with heap := h', toks := tk }) → wpAny (model W.prog W.w) A (eval e fe) Q E s
theorem ex_setXw {x : Str} {px pos : Pos} {e : Expr} {rest : List Stmt} {PP : PyData → Rho → Prop} (he : Xw W A fe lev g M ρ e PP) (k : ∀ d ρ₁, PP d ρ₁ → Nm fe ρ₁ x ∧ Ex W A fe lev g M ((x, .val d) :: ρ₁) rest Nx Rt)
    (hs : swapsWith e (some (.Name x px)) pos.line fe = pure false) : Ex W A fe lev g M ρ (.Assign [.Name x px] e pos :: rest) Nx Rt := by
  intro s Q E S kN kR
  refine wpAny_execs_cons (wpAny_Assign_Name (he s _ E S fun v d ρ₁ h₁ tk₁ pp f₁ S₁ ro => ?_) hs)
  obtain ⟨n, ex⟩ := k d ρ₁ pp
  refine S₁.store (s := { s with heap := h₁, toks := tk₁ }) (e := .val d) n.kind ro n.new n.h1 n.h2 fun h₂ tk₂ f₂ S₂ => ?_
  exact ex { s with heap := h₂, toks := tk₂ } _ _ S₂ (fun ρ' h' tk' hn f' S' => kN ρ' h' tk' hn ((f₁.trans f₂).trans f') S') kR
theorem xw_lot {x : Str} {np xp pos : Pos} {a : Addr} {k : Nat × Addr} (hlev : 1 < lev) (hm : (x, Ent.src a k) ∈ ρ) (hk1 : k.1 ≤ 50)
    (hk : fe.kindOf "_law_lot" = some .globalImplicit) (a0 : starEach [.Name x xp] fe = (false, eval (.Name x xp) fe) :: starEach [] fe) :
    Xw W A fe lev g [a] ρ (.Call (.Name "_law_lot" np) [.Name x xp] [] pos) (fun d ρ' => ∃ ns, ns ∈ lotsN 4 ∧ d = .list (ns.map .int) ∧ ρ' = (x, .src a (k.1 + 7, k.2)) :: dropSrc ρ) := by
  intro s Q E S kq
  have T := S.ok.top
  obtain ⟨c, o, pm, code, doc, g1, g2, g3, g4⟩ := top_fn T S.knows (r := r_law_lot) recIs_mem
  refine PyProof.Rows.Call_ (Name_function_global S.kind hk (loadGlobal_global (by rw [S.globs]; exact T.g) g1 ?_) (by decide))
  refine callWith_function (o := o) (fd := docDef r_law_lot.name r_law_lot.params r_law_lot.body r_law_lot.scope pm code doc) ?_
  have args : ∀ (Q' : List Value → Shared → Prop) (E' : Value → Shared → Prop), Q' [.ref a] s →
      wpAny (model W.prog W.w) A (spliced (backTo pos (starEach [.Name x xp] fe))) Q' E' s := fun Q' E' kk => by
    refine spliced_more (src_name S hm ?_) a0
    exact spliced_none kk
  rw [a0] at args ⊢
  refine evalArgs_plain (args _ E ⟨⟨g2, g3⟩, ?_⟩)
  obtain ⟨_, _, _, haM, hs⟩ := S.ents _ hm
  obtain ⟨ag, aL, _⟩ := S.mov a haM
  obtain ⟨A₀, base, outer, B, hA⟩ := S.ctx
  obtain ⟨m', F⟩ := S.fr
  have hs0 := hs
  obtain ⟨cc, t, vs, ns, d, hc, hl, hI, q1, q2, q3, q4⟩ := hs
  obtain ⟨oa, es, ep, ea, qa⟩ := dictOf_ex d
  obtain ⟨od, es', ep', ed, exd, qd', _⟩ := id d
  refine wpAny_call (enter (s := s) def_law_lot S.knows S.hand S.kind S.depth S.units B F hA S.frame S.top rfl g1 (by omega) (hid := [a]) (fun b hb => ?_) fun L' c' cd' h₃ tk₃ l₃ mk => ?_)
  · obtain rfl := List.mem_singleton.mp hb
    exact ⟨⟨_, ea⟩, ag, aL⟩
  · have S3 := mk [("src", .src a k)] (fun p hp => ?_) (fun b hb => ?_)
    · refine lot_at (A.deeper _) L' c' cd' _ _ a k hk1 (by omega) { s with heap := h₃, toks := tk₃ } _ _ S3 (fun ρ' h₄ tk₄ hN f₄ S4 => hN.elim) fun v d ρ' h₄ tk₄ hR S4 rd => ?_
      obtain ⟨hin, ns', hns, rfl⟩ := hR
      have keep : ∀ b o, b ≠ a → s.heap.get? b = some o → h₄.get? b = some o := fun b o hb e => S4.le b o (hideAll_get _ e (by simpa using hb))
      obtain ⟨_, _, _, _, hs4⟩ := S4.ents _ hin
      have S5 := S.src' hm keep hs4
      exact kq v _ _ h₄ tk₄ ⟨ns', hns, rfl, rfl⟩ (fun b o e _ _ hb => keep b o (fun e' => hb (e' ▸ haM)) e) S5 (S5.off rd (.inr (.inr ⟨x, a, _, rfl, .head _⟩)))
    · obtain rfl := List.mem_singleton.mp hp
      have hs3 := EntIs.up (W := W) (M := [a]) (v := .ref a) (e := .src a k) l₃ ⟨rfl, haM, hs0⟩
      exact ⟨_, .head _, hs3⟩
    · obtain rfl := List.mem_singleton.mp hb
      exact ⟨_, l₃ _ _ ed, fun v hd => (by rw [qd'] at hd; cases hd), fun hd => (by rw [exd.1] at hd; simp at hd)⟩

theorem ev_listRange {np pos : Pos} {e : Expr} {env : Env} {σ : List (Str × PyData)} {a b : Int} (hr : RgEv W A fe lev env σ e a b) (ha : -(2 ^ 62) ≤ a) (ha' : a < 2 ^ 62) (hb : -(2 ^ 62) ≤ b) (hb' : b < 2 ^ 62) (hsz : (b - a).toNat ≤ 1000)
    (hk : env.kindOf "list" = some .globalImplicit) (he : starEach [e] env = (false, eval e env) :: starEach [] env) :
    Ev W A fe lev env σ (.Call (.Name "list" np) [e] [] pos) (.list ((intsAB a b).map .int)) := by
  intro s Q E ok hv k
  have T := ok.top
  have hbn : (Str.ofString "list") ∈ bnames := by decide +kernel
  have hboot : bootBuiltins (Str.ofString "list") = some (.type "list") := by boot_by_name
  refine PyProof.Rows.Call_ (Name_function_global hv.kind hk (loadGlobal_builtin (by rw [hv.globs]; exact T.g) (ok.knows.free _ hbn) (by rw [hv.bltn]; exact T.b) ((T.builtins _ (by decide +kernel)).trans hboot) ?_) (by decide +kernel))
  refine PyProof.Rows.callWith_type1 (spliced_more (hr s _ E ok hv fun r h₁ tk t u v l hR => ?_) he) he rfl
  refine spliced_none ?_
  refine call_list_range (s := { s with heap := h₁, toks := tk }) ok.hand hR (small_one ha ha' hb hb') (rangeSize_nat a b) (Nat.le_trans hsz (by decide)) fun h₂ tk₂ acc c l₂ e2 it => ?_
  refine k _ h₂ tk₂ (l.trans l₂) (Rd.ofList (vs := acc) ⟨_, e2, rfl, _, rfl⟩ (rd_of_intsAre ?_))
  have key : ∀ (l : List Value) (ns : List Int), l.length = ns.length → (∀ i v, l[i]? = some v → ∃ t n, v = Value.int n t ∧ ns[i]? = some n) → IntsAre l ns := fun l => by
    induction l with
    | nil => intro ns h _; cases ns with | nil => exact .nil | cons _ _ => simp at h
    | cons w l ih =>
      intro ns h q
      cases ns with
      | nil => simp at h
      | cons n ns =>
        obtain ⟨t, n', rfl, e⟩ := q 0 w rfl
        have e' : some n = some n' := e
        obtain rfl := Option.some.inj e'
        exact .cons _ t (ih ns (by simpa using h) fun i v hv => q (i + 1) v (by simpa using hv))
  refine key _ _ (by rw [intsAB_len]; simpa using it.1) fun i v hv => ?_
  have hv' : acc[i]? = some v := by simpa using hv
  obtain ⟨t, rfl⟩ := it.2 i v hv'
  have hi : i < (b - a).toNat := by
    have := (Array.getElem?_eq_some_iff.mp hv').1
    rwa [it.1] at this
  refine ⟨t, _, rfl, ?_⟩
  simp [intsAB, hi]
end
section
variable {W : Wd} {A : Around} {fe : Env} {lev : Nat} {env : Env} {σ : List (Str × PyData)}
theorem ev_rep0 {k : Nat} {kp lp pos : Pos} {e : Expr} {n : Int} (x : Ev W A fe lev env σ e (.int n)) (h0 : 0 ≤ n) (h1 : n ≤ 1) : Ev W A fe lev env σ (.BinOp (.List [.Constant (.int 0) k kp] lp) .Mult e pos) (.list ((List.replicate n.toNat (0 : Int)).map .int)) := by
  intro s Q E ok hv kq
  refine wpAny_BinOp (List_ (spliced_more (wpAny_Constant_int ?_) rfl))
  refine spliced_none ?_
  refine wpAny_newObj_type (T := "list") ?_ (by show ([Value.int 0 s.toks] : List Value).toArray.size ≤ sizeLine; rw [List.size_toArray]; exact Nat.le_of_ble_eq_true rfl)
  have lp := Le.push s.heap { cls := .type "list", data := .seq [Value.int 0 s.toks].toArray 0 }
  have e0 := Heap.get?_push_size s.heap (o := { cls := .type "list", data := .seq [Value.int 0 s.toks].toArray 0 }) rfl
  refine x _ _ E (ok.up lp) (hv.up lp) fun v h₂ t₂ l₂ r₂ => ?_
  obtain ⟨u, rfl⟩ := r₂.int
  have e2 := l₂ _ _ e0
  refine wpAny_binaryOp_repeat_ref (T := "list") (U := "int") (by decide) ⟨_, e2, rfl⟩ (fun _ => typeIs_int _ n u) noFill_list_mul PySem.F.fills_int_mul PySem.F.slot_int_rmul repeat_list PySem.F.slot_int_index.lookup ?_
  refine call_meets PySem.F.slot_int_rmul (typeIs_int _ n u) PySem.F.entry_int_rmul (PySem.F.args_int_rmul_2 _ _) (int___rmul___int_list n u _ _ _) ⟨e2, rfl, ⟨_, e2, rfl⟩, ?_⟩
  refine call_meets PySem.F.slot_list_mul ⟨_, e2, rfl⟩ PySem.F.entry_list_mul (PySem.F.args_list_mul_2 _ _) (AutoListH.list___mul___list_int_3 _ _ _ n u ?_ ?_ ?_) ⟨e2, ?_⟩
  · simp [Builtin.List.listFitsIndex]; omega
  · show ¬ 1 * n.toNat > _
    omega
  · show ¬ Builtin.List.listTooLong (1 * n.toNat) = true
    simp [Builtin.List.listTooLong, sizeLine]; omega
  have l3 := Le.push h₂ { cls := .type "list", data := .seq (List.foldl (fun x1 x2 => x1 ++ x2) #[] (List.replicate (if (([Value.int 0 s.toks] : List Value).toArray).isEmpty = true then 0 else n.toNat) [Value.int 0 s.toks].toArray)) }
  refine kq _ _ t₂ ((lp.trans l₂).trans l3) ?_
  have : n = 0 ∨ n = 1 := by omega
  rcases this with rfl | rfl
  · exact Rd.ofList (vs := #[]) ⟨_, Heap.get?_push_size _ rfl, rfl, _, rfl⟩ RdAll.nil
  · exact Rd.ofList (vs := #[Value.int 0 s.toks]) ⟨_, Heap.get?_push_size _ rfl, rfl, _, rfl⟩ (RdAll.cons (Rd.ofInt _ _) RdAll.nil)
end
noncomputable def cellsOf' (xs : List Int) : List Int := ((xs.take 50).map fun z => (if z < 0 then -z else z).fmod 1000003) ++ List.replicate (if xs == [] then (1 : Int) else 0).toNat (0 : Int)
theorem cells_good {xs : List Int} : GoodCells (cellsOf' xs) := by
  unfold cellsOf'
  refine ⟨?_, ?_, ?_⟩
  · cases xs with
    | nil => decide
    | cons x xs => simp
  · simp only [List.length_append, List.length_map, List.length_take, List.length_replicate]
    split
    · rename_i h
      have : xs = [] := by simpa using h
      subst this; decide
    · simp; omega
  · intro n hn
    rcases List.mem_append.mp hn with h | h
    · obtain ⟨z, _, rfl⟩ := List.mem_map.mp h
      exact ⟨Int.fmod_nonneg_of_pos _ (by decide), Int.fmod_lt_of_pos _ (by decide)⟩
    · rw [List.eq_of_mem_replicate h]; decide
theorem ev_run {W : Wd} {A : Around} {fe : Env} {lev : Nat} {env : Env} {σ : List (Str × PyData)} {e : Expr} {d : PyData} {s : Shared} {Q : Value → Shared → Prop} {E : Value → Shared → Prop} (ok : OK W A fe lev s.heap) (hv : Vars env σ s.heap) (x : Ev W A fe lev env σ e d)
    (k : ∀ v h' tk, Le s.heap h' → Rd h' v d → Q v { s with heap := h', toks := tk }) : wpAny (model W.prog W.w) A (eval e env) Q E s := x s Q E ok hv k
section
variable {W : Wd} {A : Around} {fe : Env} {lev : Nat} {g : Heap} {M : List Addr} {ρ ρ' : Rho} {Nx : Rho → Prop} {Rt : Rho → PyData → Prop} {h h' : Heap}
theorem St.growO (S : St W A fe lev g M ρ h) (l : Le h h') {a : Addr} (ha : h.get? a = none) {o : Obj} (ho : h'.get? a = some o) (h1 : ∀ v, o.data ≠ .cell v) (h2 : o.cls ≠ .type "tuple") : St W A fe lev g (a :: M) ρ h' := by
  obtain ⟨m, F⟩ := S.fr
  have S' := S.up l
  refine { S' with mov := fun b hb => ?_, ents := fun p hp => ?_ }
  · rcases List.mem_cons.mp hb with rfl | hb
    · refine ⟨?_, fun e' => ?_, _, ho, h1, h2⟩
      · cases q : g.get? b with
        | none => rfl
        | some o => rw [S.le _ _ q] at ha; cases ha
      · obtain ⟨o, _, _, e1, _⟩ := F.ns
        rw [← e', ha] at e1; cases e1
    · exact S'.mov b hb
  · obtain ⟨v, hv, e⟩ := S.ents p hp
    exact ⟨v, hv.up l, (e.grow ha).up l⟩
theorem xe_src {x : Str} {np xp pos : Pos} {xs : List Int} (hlev : 0 < lev) (hm : (x, PyData.list (xs.map .int)) ∈ vals ρ) (hx : xs.length < 64)
    (hk : fe.kindOf "_law_src" = some .globalImplicit) (a0 : starEach [.Name x xp] fe = (false, eval (.Name x xp) fe) :: starEach [] fe) :
    Xe W A fe lev g [] ρ (.Call (.Name "_law_src" np) [.Name x xp] [] pos) (fun M' ρ' ent => ∃ a c, M' = [a] ∧ ρ' = ρ ∧ ent = .src a (0, c)) := by
  intro s Q E S kq
  have T := S.ok.top
  obtain ⟨c, o, pm, code, doc, g1, g2, g3, g4⟩ := top_fn T S.knows (r := r_law_src) recIs_mem
  refine PyProof.Rows.Call_ (Name_function_global S.kind hk (loadGlobal_global (by rw [S.globs]; exact T.g) g1 ?_) (by decide))
  refine callWith_function (o := o) (fd := docDef r_law_src.name r_law_src.params r_law_src.body r_law_src.scope pm code doc) ?_
  have args := evs_cons (W := W) (A := A) (fe := fe) (lev := lev) (env := fe) (ev_name (pos := xp) hm) evs_nil a0 pos s
  rw [a0] at args ⊢
  refine evalArgs_plain (args _ E S.ok S.vars fun vs h₂ t₂ l₂ rr => ⟨⟨l₂ _ _ g2, g3⟩, ?_⟩)
  have S2 := S.up l₂
  obtain ⟨v, rfl, rv⟩ := rdAll1 rr
  obtain ⟨A₀, base, outer, B, hA⟩ := S.ctx
  obtain ⟨m', F⟩ := S2.fr
  refine wpAny_call (enter (s := { s with heap := h₂, toks := t₂ }) def_law_src S.knows S.hand S.kind S.depth S.units B F hA S.frame S.top rfl g1 hlev (hid := []) (fun b hb => nomatch hb) fun L' c' cd' h₃ tk₃ l₃ mk => ?_)
  have S3 := mk [("script", .val (.list (xs.map .int)))] (fun p hp => ?_) (fun b hb => nomatch hb)
  · have S4 := S3
    refine wpAny_execs_cons (wpAny_Return_some ?_)
    refine wpAny_Dict_walk (knd := PySem.strKind W.prog W.w) rfl rfl (List.cons_ne_nil _ _) (Nat.le_of_ble_eq_true rfl) ?_
    have lp := Le.push h₃ { cls := .type "dict", data := .dict #[] }
    have e0 := Heap.get?_push_size h₃ (o := { cls := .type "dict", data := .dict #[] }) rfl
    have S4 := S3.up lp
    have hd0 : (h₃.push { cls := .type "dict", data := .dict #[] }).DictOf (PySem.strKind W.prog W.w) h₃.objs.size [] := Heap.DictOf.new h₃
    have hlenT : (xs.take 50).length ≤ 50 := by rw [List.length_take]; omega
    refine pairTrees_cons_walk (wpAny_Constant_str ?_)
    refine ev_run (d := .list ((cellsOf' xs).map .int)) S4.ok S4.vars ?xv fun u h₄ tk₄ l₄ r₄ => ?_
    case xv =>
      unfold cellsOf'
      rw [List.map_append]
      refine ev_bin ?_ (ev_rep0 (n := if xs == [] then 1 else 0) ?_ (by split <;> decide) (by split <;> decide)) (bo_addL ?_)
      · have hfl : ((xs.take 50).map fun z => (if z < 0 then -z else z).fmod 1000003).map PyData.int = (xs.take 50).flatMap fun z => [PyData.int ((if z < 0 then -z else z).fmod 1000003)] := by
          rw [List.map_map, flat_one (q := fun z => PyData.int ((if z < 0 then -z else z).fmod 1000003))]; rfl
        rw [hfl]
        refine ev_compL (cl := []) (ρ₀ := []) int_inj (fun z => [PyData.int ((if z < 0 then -z else z).fmod 1000003)]) (itb_list ?_ ?_) ⟨rfl, trivial, fun p hp => (nomatch hp), rfl, by decide, fun _ => rfl⟩ ?_ fun hA C D G z hz => ?_
        · rw [List.map_take]
          refine ev_sliceTo (n := 50) (ev_name (.head _)) ev_int ?_
          have : (64 : Nat) ≤ sizeLine := by decide
          rw [List.length_map]; omega
        · intro d hd; obtain ⟨p, _, rfl⟩ := List.mem_map.mp hd; rfl
        · rw [flat_one, List.length_map]; exact Nat.le_trans hlenT (by decide)
        · refine ⟨_, tc_name ⟨.inl rfl, rfl, rfl, rfl⟩, bd_emit0 (ev_bin (d₁ := .int (if z < 0 then -z else z)) ?_ ev_int (bo_mod (by decide))) rfl fun p hp => nomatch hp⟩
          exact ev_callB (id := "abs") rfl (by decide) (by boot_by_name) (evs_cons (ev_name (.head _)) evs_nil rfl) cl_abs
      · refine ev_callT (id := "int") (ds := [.bool (xs == [])]) rfl (by decide) (by boot_by_name) (evs_cons (ev_cmp (d₂ := .list (([] : List Int).map .int)) (ev_name (.head _)) (by lcg_src) co_eqZs rfl) evs_nil rfl) cl_intB
      · have : (100 : Nat) ≤ sizeLine := by decide
        simp only [List.length_map, List.length_replicate]
        have : (if (xs == []) = true then (1 : Int) else 0).toNat ≤ 1 := by split <;> decide
        omega
    refine pairTrees_cons_walk (wpAny_Constant_str (wpAny_Constant_int (pairTrees_nil_walk ?_)))
    obtain ⟨cc, vs, rfl, hlc, hrc⟩ := r₄.list
    refine ⟨[(Str.ofString "cells", .ref cc), (Str.ofString "spot", .int 0 _)], ⟨strKind_is W.prog W.w _ _, rfl, strKind_is W.prog W.w _ _, rfl, trivial⟩, dictOf_at hd0 fun o e => l₄ _ _ e, fun h₅ d5 s5 => ?_⟩
    have hmg : ∀ t : Tok, merged [] [(Str.ofString "cells", Value.ref cc), (Str.ofString "spot", Value.int 0 t)] = [(Str.ofString "cells", Value.ref cc), (Str.ofString "spot", Value.int 0 t)] := fun t => by
      have e1 : (Str.ofString "cells" = Str.ofString "spot") = False := by simp only [eq_iff_iff, iff_false]; decide +kernel
      simp [merged, stored, e1]
    rw [hmg] at d5
    have e4 := dictOf_at hd0 fun o e => l₄ _ _ e
    obtain ⟨od, es', ep', ed, exd, qd', _⟩ := id d5
    obtain ⟨oq, esq, epq, eq4, qq4⟩ := dictOf_ex e4
    have hn3 : h₃.get? h₃.objs.size = none := Heap.get?_none_of_le (Nat.le_refl _)
    have l03 : Le s.heap h₃ := l₂.trans l₃
    have hn0 : s.heap.get? h₃.objs.size = none := by
      cases q : s.heap.get? h₃.objs.size with
      | none => rfl
      | some o => rw [l03 _ _ q] at hn3; cases hn3
    have k45 : ∀ b o, b ≠ h₃.objs.size → h₄.get? b = some o → h₅.get? b = some o := fun b o hb e => s5.extBut b o hb e
    have l05 : Le s.heap h₅ := fun b o e => k45 b o (fun e' => by rw [e', hn0] at e; cases e) (l₄ _ _ (lp _ _ (l03 _ _ e)))
    obtain ⟨oc, c1, c2, nc, c3⟩ := hlc
    have hcD : cc ≠ h₃.objs.size := fun e => by rw [e, eq4] at c1; cases c1; rw [qq4] at c3; cases c3
    obtain ⟨z1, z2, z3⟩ := cells_good (xs := xs)
    refine kq _ h₅ _ [h₃.objs.size] ρ (.src h₃.objs.size (0, cc)) ⟨_, _, rfl, rfl, rfl⟩ ⟨fun b hb => (nomatch hb), fun b hb => .inr (by rw [List.mem_singleton.mp hb]; exact hn0)⟩ (Fp.of l05)
      (S.growO l05 hn0 ed (fun v hd => by rw [qd'] at hd; cases hd) (fun hd => by rw [exd.1] at hd; simp at hd))
      ⟨rfl, .head _, cc, _, vs, cellsOf' xs, d5, fun hm => hcD (List.mem_singleton.mp hm), ⟨oc, k45 _ _ hcD c1, c2, nc, c3⟩, intsAre_of_rd hrc, z1, z2, z3, rfl⟩
  · obtain rfl := List.mem_singleton.mp hp
    exact ⟨_, .head _, (rv.up l₃).off⟩
end
local macro_rules | `(tactic| lcg_src) => `(tactic| ((with_reducible show Ev _ _ _ _ _ _ (Expr.Call (Expr.Name (Str.ofString "law_literals") _) _ _ _) _); refine' ev_call r_law_literals recIs_mem rfl ?k ?a law_literals_fn ?n ?d ?e; (case k => exact rfl); (case d => exact rfl); (case e => exact rfl); (case n => omega); (case a => lcg_src)))
section
variable {W : Wd} {A : Around} {fe : Env} {lev : Nat} {g : Heap} {M : List Addr} {ρ ρ' : Rho} {Nx : Rho → Prop} {Rt : Rho → PyData → Prop} {h h' : Heap}
theorem xw_item {x : Str} {np pos : Pos} {slice : Expr} {l : List PyData} {PP : Int → Rho → Prop} (hm : (x, PyData.list l) ∈ vals ρ) (o : Off M ρ (.list l)) (hi : ∀ d ∈ l, imm d = true) (hsz : l.length ≤ 1000)
    (hs : Xi W A fe lev g M ρ slice fun i ρ' => 0 ≤ i ∧ i < (l.length : Int) ∧ PP i ρ') (hsub : ∀ o i, subscripted slice false o i = operate [o, i] (getItem o i)) :
    Xw W A fe lev g M ρ (.Subscript (.Name x np) slice pos) (fun d ρ' => ∃ i, 0 ≤ i ∧ i < (l.length : Int) ∧ PP i ρ' ∧ l[i.toNat]? = some d) := by
  intro s Q E S k
  refine Subscript_ (ev_run S.ok S.vars (ev_name hm) fun v h₁ t₁ l₁ r₁ => ?_)
  have S1 := S.up l₁
  have ro := S1.off r₁ o
  refine hs { s with heap := h₁, toks := t₁ } _ E S1 fun i t ρ₂ h₂ t₂ pp f₂ S2 => ?_
  obtain ⟨h0, h1, pp⟩ := pp
  have ro2 := ro.fp S1 f₂
  obtain ⟨a, vs, rfl, ht, hr⟩ := ro2.rd.list
  have hlt : i.toNat < l.length := by omega
  obtain ⟨v, hv1, hv2⟩ := hr.get (List.getElem?_eq_getElem hlt)
  refine tail_any (Q := Q) (s := { s with heap := h₂, toks := t₂ }) ht.typeIs slot_list_getitem.lookup (wpAny_getItem_list (s := { s with heap := h₂, toks := t₂ }) ht h0 (by omega) (x := v) (by simpa using hv1) ?_) (hsub _ _)
  exact k v _ ρ₂ h₂ t₂ ⟨i, h0, h1, pp, List.getElem?_eq_getElem hlt⟩ ((Fp.of l₁).trans f₂) S2 (hv2.offI (hi _ (List.getElem_mem hlt)))
theorem hi_of_ev {x : Str} {iter : Expr} {a : Addr} {k : Nat × Addr} {ds : List PyData} (hM : M = [a]) (hm : (x, Ent.src a k) ∈ ρ) (he : Ev W A fe lev fe (vals ρ) iter (.list ds)) : ∀ (s : Shared) (Q : Value → Shared → Prop) (E : Value → Shared → Prop), St W A fe lev g M ρ s.heap →
      (∀ (a : Addr) (h' : Heap) (tk : Nat) (vs : Array Value), Le s.heap h' → a ∉ M → h'.IsList a vs → Items M h' vs ds → vs.size = ds.length → Q (.ref a) { s with heap := h', toks := tk }) → wpAny (model W.prog W.w) A (eval iter fe) Q E s := by
  intro s Q E S kq
  refine he s _ E S.ok S.vars fun v h' tk l r => ?_
  have S1 := S.up l
  have off : ∀ d, Off M ρ d := fun d => .inr (.inr ⟨x, a, k, hM, hm⟩)
  obtain ⟨c, vs, rfl, ht, hr⟩ := r.list
  refine kq c h' tk vs l (fun hc => ?_) ht (fun i v e => ?_) (by have := hr.length; simpa using this)
  · obtain ⟨v', _, rfl, _, c', t, vs', ns, dd, _⟩ := S1.ents _ hm
    obtain ⟨o, es, ep, e, q⟩ := dictOf_ex dd
    obtain ⟨o', e', _, n, q'⟩ := ht
    rw [hM, List.mem_singleton] at hc
    rw [hc, e] at e'; cases e'
    rw [q] at q'; cases q'
  · obtain ⟨d, e1, r1⟩ := hr.get' (j := i) (v := v) (by simpa using e)
    exact ⟨d, e1, S1.off r1 (off d)⟩
theorem co_neB {a b : Bool} : Co W A fe lev .NotEq (.bool a) (.bool b) (a != b) := by
  have := co_ne (W := W) (A := A) (fe := fe) (lev := lev) (a := .bool a) (b := .bool b) (by simp only [PyData.canLay0]) (by simp only [PyData.canLay0]) (by simp only [PyData.depth]; decide)
  simpa only [PyData.eqv, bne] using this
theorem co_notInL {a b : List Int} : Co W A fe lev .NotIn (.list (a.map .int)) (.list [.list [], .list (b.map .int)]) (!(([] == a) || (b == a))) := by
  have := co_notIn (W := W) (A := A) (fe := fe) (lev := lev) (a := .list (a.map .int)) (l := [.list (([] : List Int).map .int), .list (b.map .int)]) (by simp only [PyData.canLay0, zs_lay]) (by simp only [PyData.canLayAll0, PyData.canLay0, zs_lay, Bool.and_self]) (by simp only [PyData.depth, zs_depth]; decide)
  show Co W A fe lev .NotIn (.list (a.map .int)) (.list [.list (([] : List Int).map .int), .list (b.map .int)]) _
  simpa only [List.any_cons, List.any_nil, Bool.or_false, PyData.eqv, zs_eqv] using this
theorem xs_entS {e : Expr} {es : List Expr} {P₁ : List Addr → Rho → Ent → Prop} {PP : List Addr → Rho → List Ent → Prop} (x : Xe W A fe lev g M ρ e P₁)
    (y : ∀ M' ρ' ent, P₁ M' ρ' ent → ∃ a k ds, M' = [a] ∧ ent = .src a k ∧ Evs W A fe lev fe (vals ρ') es ds ∧ PP M' ρ' (ent :: ds.map .val))
    (he : starEach (e :: es) fe = (false, eval e fe) :: starEach es fe) : Xs W A fe lev g M ρ (e :: es) PP := by
  intro pos s Q E S k
  refine spliced_more (x s _ E S fun v h₁ tk₁ M' ρ' ent p₁ gr f₁ S₁ en => ?_) he
  obtain ⟨a, j, ds, rfl, rfl, evs, pp⟩ := y M' ρ' ent p₁
  refine evs pos { s with heap := h₁, toks := tk₁ } _ E S₁.ok S₁.vars fun vs h' tk l r => ?_
  have S' := S₁.up l
  have en' := en.up l
  obtain ⟨rfl, haM, c, t, vs', ns, dd, r'⟩ := id en'
  obtain ⟨o, es', ep, e', q⟩ := dictOf_ex dd
  have all : ∀ {vs : List Value} {ds : List PyData}, RdAll h' vs ds → EntsAre W [a] h' vs (ds.map .val) := fun {vs ds} r => by
    induction ds generalizing vs with
    | nil => cases vs with
      | nil => exact .nil
      | cons v vs => have := r.length; simp at this
    | cons d ds ih => cases vs with
      | nil => have := r.length; simp at this
      | cons v vs =>
        obtain ⟨as, rr, w⟩ := r.inv.1
        refine .cons ⟨as, rr, fun b hb => ⟨w b hb, fun hm => ?_⟩⟩ (ih r.inv.2)
        obtain ⟨o', xs, n, e'', q''⟩ := w b hb
        rw [List.mem_singleton.mp hm, e'] at e''; cases e''
        rw [q] at q''; cases q''
  exact k _ h' tk _ ρ' _ pp gr (f₁.trans (Fp.of l)) S' (.cons en' (all r))
inductive StosT (W : Wd) (A : Around) (fe : Env) : Rho → List (Str × Ent) → List (Value → Sem Unit) → Prop
  | nil {ρ : Rho} : StosT W A fe ρ [] []
  | cons {ρ : Rho} {x : Str} {e : Ent} {r : List (Str × Ent)} {t : Value → Sem Unit} {ts : List (Value → Sem Unit)} : Nm fe ρ x → Sto W A fe x t → StosT W A fe ((x, e) :: ρ) r ts → StosT W A fe ρ ((x, e) :: r) (t :: ts)
theorem store_allT : ∀ {xs : List (Str × Ent)} {ts : List (Value → Sem Unit)} {vs : List Value} {ρ : Rho} {s : Shared} {Q : Unit → Shared → Prop} {E : Value → Shared → Prop},
    St W A fe lev g M ρ s.heap → StosT W A fe ρ xs ts → EntsAre W M s.heap vs (xs.map (·.2)) →
    (∀ h' tk, Fp fe M s.heap h' → St W A fe lev g M (pushE xs ρ) h' → Q () { s with heap := h', toks := tk }) → wpAny (model W.prog W.w) A (assignInOrder ts vs) Q E s
  | [], _, vs, ρ, s, Q, E, S, .nil, ev, k => by
    cases ev
    exact assignInOrder_nil (k s.heap s.toks (Fp.refl _) S)
  | (x, e) :: r, _, vs, ρ, s, Q, E, S, .cons n st t, ev, k => by
    cases ev with
    | cons a b =>
      refine assignInOrder_cons (st _ _ _ _ (S.storeE n.kind a n.new n.h1 n.h2 fun h' tk f z S' => ?_))
      exact store_allT (s := { s with heap := h', toks := tk }) S' t (b.map z) fun h'' tk' f' S'' => k h'' tk' (f.trans f') S''
theorem ex_unpackX {elts es : List Expr} {k k' : Nat} {tpos vpos pos : Pos} {rest : List Stmt} {PP : List Addr → Rho → List Ent → Prop} (x : Xs W A fe lev g M ρ es PP)
    (y : ∀ M' ρ' ents, PP M' ρ' ents → (namesOf elts).length = ents.length ∧ StosT W A fe ρ' ((namesOf elts).zip ents) ((assignEach elts fe).map (·.2)) ∧ Ex W A fe lev g M' (pushE ((namesOf elts).zip ents) ρ') rest (fun _ => False) (fun ρ'' d => Rt (keepOf M ρ'') d))
    (hn : (assignEach elts fe).length = (namesOf elts).length) (hstar : (assignEach elts fe).findIdx? (·.1) = none)
    (hsw : swapsWithSole [.Tuple elts k tpos] (.Tuple es k' vpos) pos.line fe = pure false) (hw : swappedStores [.Tuple elts k tpos] (.Tuple es k' vpos) fe = pure none) (hsz : (namesOf elts).length ≤ 100) :
    Ex W A fe lev g M ρ (.Assign [.Tuple elts k tpos] (.Tuple es k' vpos) pos :: rest) Nx Rt := by
  intro s Q E S _ kR
  refine wpAny_execs_cons (Assign_Tuple (Tuple_ (x vpos s _ E S fun vs h₁ tk₁ M' ρ' ents pp gr f₁ S₁ en => ?_)) hsw hw)
  obtain ⟨hlen, hst, ex⟩ := y M' ρ' ents pp
  have e0 := en.length
  have hk : vs.length ≤ sizeLine := by
    have : (100 : Nat) ≤ sizeLine := by decide
    omega
  refine wpAny_newObj_type (T := "tuple") ?_ (by show vs.toArray.size ≤ sizeLine; rw [List.size_toArray]; exact hk)
  have lp := Le.push h₁ { cls := .type "tuple", data := .seq vs.toArray 0 }
  have S₂ := S₁.up lp
  have ht : IsTup (h₁.push { cls := .type "tuple", data := .seq vs.toArray 0 }) h₁.objs.size vs.toArray := ⟨_, Heap.get?_push_size _ rfl, rfl, _, rfl⟩
  have e2 : (namesOf elts).length = vs.toArray.size := by rw [List.size_toArray, e0, hlen]
  refine wpAny_assign_Tuple (s := { s with heap := h₁.push { cls := .type "tuple", data := .seq vs.toArray 0 }, toks := tk₁ }) S.hand ht (by rw [hn, e2]) hstar fun h'' ext => ?_
  have l2 := le_of_ext ext
  have S₃ := S₂.up l2
  have e3 : (((namesOf elts).zip ents).map (·.2)) = ents := List.map_snd_zip (by omega)
  refine store_allT (s := { s with heap := h'', toks := tk₁ }) S₃ hst (by rw [e3]; exact en.map fun v e q => (q.up lp).up l2) fun h3 tk3 f3 S4 => ?_
  exact ex { s with heap := h3, toks := tk3 } _ _ S4 (fun _ _ _ h => h.elim) fun v d ρ'' h4 tk4 rt S5 rd => kR v d (keepOf M ρ'') h4 tk4 rt (S5.shrink gr.1) rd
end
noncomputable def every : List Int := intsAB (-5) 13
noncomputable def someOf (lot : List Int) : List Lit := (allLits 0).filter fun one => !(([] == kept [one] lot) || (lot == kept [one] lot))
noncomputable def negL (l : Lit) : Lit := match l.2.1 with
  | .le => (l.1, .ge, l.2.2 + 1)
  | .ge => (l.1, .le, l.2.2 - 1)
  | .eq => (l.1, .ne, l.2.2)
  | .ne => (l.1, .eq, l.2.2)
theorem neg_negL {l : Lit} : neg l.1 l.2.1 l.2.2 = litD (negL l) := by
  obtain ⟨x, s, k⟩ := l
  cases s <;> rfl
noncomputable def impL (a b : Lit) : Bool := implB a.1 a.2.1 a.2.2 b.1 b.2.1 b.2.2
structure LotOk (lot : List Int) : Prop where
  rises : lot.Pairwise (· ≤ ·)
  len : lot.length < 64
  pos : 0 < (someOf lot).length
  struck : ∀ l ∈ someOf lot, struck l.2.1 l.2.2 (fromV lot) = fromV (kept [l] lot)
  said : ∀ l ∈ someOf lot, saidOf l.2.1 l.2.2 (fromV (kept [l] lot)) = 1
  imp : ∀ l ∈ someOf lot, ∀ o, (o ∈ allLits 0 ∨ o = (1, l.2.1, l.2.2) ∨ o = negL l ∨ o = l) →
    impL l o = (o.1 == 0 && within (kept [l] every) (kept [o] every)) ∧ impL o l = (o.1 == 0 && within (kept [o] every) (kept [l] every))
  ends : ∃ low b r l' c high, fromV lot = (low, b) :: r ∧ fromV lot = l' ++ [(c, high)] ∧ (-100 ≤ low ∧ low ≤ 100) ∧ (-100 ≤ high ∧ high ≤ 100) ∧
    ∀ l ∈ someOf lot, ∀ w ∈ someOf lot, kept [w] (kept [l] lot) = kept [l] lot → eldersRight l w lot every (toldOf l w (fromV lot) low high) = true
theorem every_len : every.length = 18 := by rw [every, intsAB_len]; rfl
theorem some_len {lot : List Int} : (someOf lot).length ≤ 48 := by
  have h : (allLits 0).length = 48 := by rfl
  have := List.length_filter_le (fun one => !(([] == kept [one] lot) || (lot == kept [one] lot))) (allLits 0)
  unfold someOf; omega
theorem law_at {W : Wd} (A : Around) (L c : Addr) (cd : Value) (g : Heap) (lev : Nat) (xs : List Int) (hx : xs.length < 64) (hlev : 5 ≤ lev) (ok : ∀ lot ∈ lotsN 4, LotOk lot) :
    Ex W A (envOfC r_law.name r_law.scope L c cd) lev g [] [("script", .val (.list (xs.map .int)))] r_law.body (fun _ => False) (fun _ d => d = .bool true) := by
  refine ex_body ?_ rfl
  have hsz : (5000 : Nat) ≤ sizeLine := by decide
  have hev : every.length ≤ 1000 := by rw [every_len]; decide
  refine ex_swapX (PP := fun M' ρ' ents => ∃ a z, M' = [a] ∧ ρ' = ([("script", .val (.list (xs.map .int)))] : Rho) ∧ ents = [.src a (0, z), .val (.list (every.map .int))]) (xs_entS (xe_src (by omega) (.head _) hx rfl rfl) ?_ rfl) ?_ rfl rfl (by decide)
  · rintro M' ρ' ent ⟨a, z, rfl, rfl, rfl⟩
    refine ⟨a, (0, z), [.list (every.map .int)], rfl, rfl, evs_cons ?_ evs_nil rfl, a, z, rfl, rfl, rfl⟩
    exact ev_listRange (rg_call (ds := [.int (-5), .int 13]) rfl (by lcg_src) (.inr rfl) rfl) (by decide) (by decide) (by decide) (by decide) (by decide) rfl rfl
  rintro M' ρ' ents ⟨a, z, rfl, rfl, rfl⟩
  refine ⟨rfl, .cons (by kas_types) (.cons (by kas_types) .nil), ?_⟩
  refine ex_setXw (xw_lot (a := a) (k := (0, z)) (by omega) (.head _) (Nat.zero_le _) rfl rfl) ?_ rfl
  rintro d ρ₁ ⟨lot, hlot, rfl, rfl⟩
  refine ⟨by kas_types, ?_⟩
  have K := ok lot hlot
  clear ok
  have keptLen : ∀ ls ns, (kept ls ns).length ≤ ns.length := fun ls ns => List.length_filter_le _ _
  have hlotlen := K.len
  have kcall : ∀ {fe' : Env} {env : Env} {σ : List (Str × PyData)} {l : Lit} {ns : List Int} {e₁ e₂ : Expr} {np lp pos : Pos}, ns.length ≤ 1000 → env.kindOf (Str.ofString "_law_kept") = some .globalImplicit → Ev W A fe' lev env σ e₁ (litD l) → Ev W A fe' lev env σ e₂ (.list (ns.map .int)) →
      starEach [e₁] env = (false, eval e₁ env) :: starEach [] env → starEach [e₂] env = (false, eval e₂ env) :: starEach [] env → Ev W A fe' lev env σ (.Call (.Name (Str.ofString "_law_kept") np) [.List [e₁] lp, e₂] [] pos) (.list ((kept [l] ns).map .int)) := fun h2 hk x y a b =>
    ev_call r_law_kept recIs_mem rfl hk (evs_cons (d := .list ([_].map litD)) (ev_list (evs_cons x evs_nil a) (Nat.le_of_ble_eq_true rfl)) (evs_cons y evs_nil b) rfl) (law_kept_fn (Nat.le_of_ble_eq_true rfl) h2) (by omega) rfl rfl
  have wcall : ∀ {fe' : Env} {env : Env} {σ : List (Str × PyData)} {ns ms : List Int} {e₁ e₂ : Expr} {np pos : Pos}, ns.length ≤ 1000 → env.kindOf (Str.ofString "_law_is_within") = some .globalImplicit → Ev W A fe' lev env σ e₁ (.list (ns.map .int)) → Ev W A fe' lev env σ e₂ (.list (ms.map .int)) →
      starEach [e₁, e₂] env = (false, eval e₁ env) :: starEach [e₂] env → starEach [e₂] env = (false, eval e₂ env) :: starEach [] env → Ev W A fe' lev env σ (.Call (.Name (Str.ofString "_law_is_within") np) [e₁, e₂] [] pos) (.bool (within ns ms)) := fun h1 hk x y a b =>
    ev_call r_law_is_within recIs_mem rfl hk (evs_cons x (evs_cons y evs_nil b) a) (law_is_within_fn h1) (by omega) rfl a
  have fcall : ∀ {fe' : Env} {env : Env} {σ : List (Str × PyData)} {ns : List Int} {e₁ : Expr} {np pos : Pos}, ns.length < 64 → ns.Pairwise (· ≤ ·) → env.kindOf (Str.ofString "from_values") = some .globalImplicit → Ev W A fe' lev env σ e₁ (.list (ns.map .int)) →
      starEach [e₁] env = (false, eval e₁ env) :: starEach [] env → Ev W A fe' lev env σ (.Call (.Name (Str.ofString "from_values") np) [e₁] [] pos) (dom (fromV ns)) := fun h1 h2 hk x a =>
    ev_call r_from_values recIs_mem rfl hk (evs_cons x evs_nil a) (from_values_fn h1 h2) (by omega) rfl a
  refine Ex.sub (ρ' := [("lot", .val (.list (lot.map .int))), ("src", .src a (7, z)), ("every", .val (.list (every.map .int)))]) (by keq_rows) ?_
  refine ex_compL (l := allLits 0) (cl := [("lot", L + 1)]) (ρ₀ := [("lot", .list (lot.map .int))]) litD_inj (fun one => if !(([] == kept [one] lot) || (lot == kept [one] lot)) then [litD one] else []) (itb_list ?_ ?_) ⟨rfl, ⟨rfl, trivial⟩, ?_, rfl, by decide, fun _ => rfl⟩ ?_ (fun hA C D G v hv => ?_) (by kas_types) rfl ?_
  · exact ev_call r_law_literals recIs_mem rfl rfl (evs_cons ev_int evs_nil rfl) law_literals_fn (by omega) rfl rfl
  · intro x hx; obtain ⟨p, _, rfl⟩ := List.mem_map.mp hx; exact lit_imm
  · intro p hp
    obtain rfl := List.mem_singleton.mp hp
    exact ⟨by keq_rows, .inl rfl, fun _ => .inl rfl, fun _ => rfl⟩
  · rw [filter_flatL, List.length_map]
    have := some_len (lot := lot)
    unfold someOf at this
    omega
  · refine ⟨_, tc_name ⟨.inl rfl, rfl, rfl, rfl⟩, bd_emit1 (ts_cmp (kcall (by omega) rfl (ev_name (.head _)) (ev_name (by keq_rows)) rfl rfl) (ev_list (evs_cons (d := .list []) (ev_list evs_nil (Nat.zero_le _)) (evs_cons (ev_name (by keq_rows)) evs_nil rfl) rfl) (Nat.le_of_ble_eq_true rfl)) co_notInL rfl) (fun _ => ev_name (.head _)) lit_imm fun p hp => .tail _ hp⟩
  rw [filter_flatL]
  have hsl := some_len (lot := lot)
  have hspos := K.pos
  change Ex W A (envOfC r_law.name r_law.scope L c cd) lev g [a] ([("some", .val (.list ((someOf lot).map litD))), ("lot", .val (.list (lot.map .int))), ("src", .src a (7, z)), ("every", .val (.list (every.map .int)))] : Rho) _ _ _
  refine ex_setXw (xw_item (l := (someOf lot).map litD) (PP := fun _ ρ' => ρ' = ([("src", .src a (8, z)), ("some", .val (.list ((someOf lot).map litD))), ("lot", .val (.list (lot.map .int))), ("every", .val (.list (every.map .int)))] : Rho)) (.head _) (.inr (.inr ⟨"src", a, (7, z), rfl, by keq_rows⟩)) ?_ (by rw [List.length_map]; omega)
    (xi_mono (xi_draw (a := a) (k := (7, z)) (m := ((someOf lot).length : Int)) (by omega) (by keq_rows) ?_ (by show 7 ≤ 100; decide) (by omega) (by omega) rfl rfl rfl) fun i ρ' h => ⟨h.1, by rw [List.length_map]; exact h.2.1, h.2.2⟩) fun _ _ => rfl) ?_ rfl
  · intro x hx; obtain ⟨p, _, rfl⟩ := List.mem_map.mp hx; exact lit_imm
  · have := cl_len (W := W) (A := A) (fe := envOfC r_law.name r_law.scope L c cd) (lev := lev) (l := (someOf lot).map litD) (by rw [List.length_map]; omega)
    rw [List.length_map] at this
    exact ev_callB (id := "len") rfl (by decide) (by boot_by_name) (evs_cons (ev_name (.head _)) evs_nil rfl) this
  rintro d ρ₁ ⟨i, hi0, hi1, rfl, hd⟩
  rw [List.getElem?_map] at hd
  obtain ⟨l, hl, rfl⟩ := Option.map_eq_some_iff.mp hd
  have hls : l ∈ someOf lot := List.mem_of_getElem? hl
  refine ⟨by kas_types, ?_⟩
  have off : ∀ {ρ : Rho} {d : PyData} {k : Nat × Addr}, (("src" : Str), Ent.src a k) ∈ ρ → Off [a] ρ d := fun h => .inr (.inr ⟨_, a, _, rfl, h⟩)
  refine ex_set (d := .list ((kept [l] lot).map .int)) (kcall (by omega) rfl (ev_name (.head _)) (ev_name (by keq_rows)) rfl rfl) (by kas_types) (off (by keq_rows)) rfl ?_
  have hleft : (kept [l] lot).length < 64 := Nat.lt_of_le_of_lt (keptLen _ _) hlotlen
  have hleftS : (kept [l] lot).Pairwise (· ≤ ·) := K.rises.filter _
  have fl : ∀ ns : List Int, ns.length < 64 → (fromV ns).length ≤ 1000 := fun ns h => by have := fromV_len _ ns rfl; omega
  refine ex_ifSkip (b := (struck l.2.1 l.2.2 (fromV lot) != fromV (kept [l] lot)) || ((saidOf l.2.1 l.2.2 (fromV (kept [l] lot)) != 1) || false)) ?_ (by rw [K.struck l hls, K.said l hls]; simp) ?_
  · refine ts_bool (tsa_or (ts_cmp (d₁ := dom (struck l.2.1 l.2.2 (fromV lot))) ?_ (fcall hleft hleftS rfl (ev_name (.head _)) rfl) co_neDom rfl) fun _ => tsa_or (ts_cmp (d₁ := .int (saidOf l.2.1 l.2.2 (fromV (kept [l] lot)))) ?_ ev_int co_neI rfl) fun _ => tsa_or_nil)
    · exact ev_call r_struck recIs_mem rfl rfl (evs_cons (d := lit l.1 l.2.1 l.2.2) (ev_name (by keq_rows)) (evs_cons (fcall hlotlen K.rises rfl (ev_name (by keq_rows)) rfl) evs_nil rfl) rfl) (struck_fn (fl lot hlotlen)) (by omega) rfl rfl
    · exact ev_call r_said_of recIs_mem rfl rfl (evs_cons (d := lit l.1 l.2.1 l.2.2) (ev_name (by keq_rows)) (evs_cons (fcall hleft hleftS rfl (ev_name (.head _)) rfl) evs_nil rfl) rfl) (said_of_fn (fl _ hleft)) (by omega) rfl rfl
  refine ex_unpackX (PP := fun M' ρ' ents => M' = [a] ∧ ∃ sd : Int, (0 ≤ sd ∧ sd < 2) ∧ ρ' = ([("src", .src a (9, z)), ("left", .val (.list ((kept [l] lot).map .int))), ("literal", .val (litD l)), ("some", .val (.list ((someOf lot).map litD))), ("lot", .val (.list (lot.map .int))), ("every", .val (.list (every.map .int)))] : Rho) ∧ ents = [.val (.list ((kept [l] every).map .int)), .val (.int sd)])
    (xs_val (d := .list ((kept [l] every).map .int)) (kcall hev rfl (ev_name (by keq_rows)) (ev_name (by keq_rows)) rfl rfl) (off (by keq_rows)) (xs_int (xi_mono (xi_draw (a := a) (k := (8, z)) (m := 2) (by omega) (by keq_rows) ev_int (by show 8 ≤ 100; decide) (by decide) (by decide) rfl rfl rfl) fun i ρ₁ h => xs_nil ⟨rfl, i, ⟨h.1, h.2.1⟩, h.2.2, rfl⟩) rfl) rfl) ?_ rfl rfl rfl rfl (by decide)
  rintro M' ρ' ents ⟨rfl, sd, hsd, rfl, rfl⟩
  refine ⟨rfl, .cons (by kas_types) sto_assign (.cons (by kas_types) sto_assign .nil), ?_⟩
  refine ex_compL (l := allLits 0) (cl := [("side", L + 2)]) (ρ₀ := [("side", .int sd)]) litD_inj (fun one => if (one.2.2.fmod 2 == sd) then [litD one] else []) (itb_list ?_ ?_) ⟨rfl, ⟨rfl, trivial⟩, ?_, rfl, by decide, fun _ => rfl⟩ ?_ (fun hA C D G v hv => ?_) (by kas_types) rfl ?_
  · exact ev_call r_law_literals recIs_mem rfl rfl (evs_cons ev_int evs_nil rfl) law_literals_fn (by omega) rfl rfl
  · intro x hx; obtain ⟨p, _, rfl⟩ := List.mem_map.mp hx; exact lit_imm
  · intro p hp
    obtain rfl := List.mem_singleton.mp hp
    exact ⟨by keq_rows, .inl rfl, fun _ => .inl rfl, fun _ => rfl⟩
  · rw [filter_flatL (q := fun one => one.2.2.fmod 2 == sd), List.length_map]
    have := List.length_filter_le (fun one : Lit => one.2.2.fmod 2 == sd) (allLits 0)
    have h : (allLits 0).length = 48 := by rfl
    omega
  · refine ⟨_, tc_name ⟨.inl rfl, rfl, rfl, rfl⟩, bd_emit1 (ts_cmp (d₁ := .int (v.2.2.fmod 2)) (ev_bin (d₁ := .int v.2.2) (ev_itemT (l := [.int v.1, .str v.2.1.str, .int v.2.2]) (j := 2) (k := 2) (ev_name (.head _)) ev_int rfl rfl (by decide) (by decide) fun _ _ => rfl) ev_int (bo_mod (by decide))) (ev_name (by keq_rows)) co_eqI rfl) (fun _ => ev_name (.head _)) lit_imm fun p hp => .tail _ hp⟩
  rw [filter_flatL (q := fun one => one.2.2.fmod 2 == sd)]
  generalize hoth : (allLits 0).filter (fun one => one.2.2.fmod 2 == sd) = oth
  have hothL : oth.length ≤ 48 := by
    have := List.length_filter_le (fun one : Lit => one.2.2.fmod 2 == sd) (allLits 0)
    have h : (allLits 0).length = 48 := by rfl
    rw [← hoth]; omega
  have hothM : ∀ o ∈ oth, o ∈ allLits 0 := fun o h => by rw [← hoth] at h; exact (List.mem_filter.mp h).1
  refine Ex.sub (ρ' := [("others", .val (.list (oth.map litD))), ("mine", .val (.list ((kept [l] every).map .int))), ("src", .src a (9, z)), ("left", .val (.list ((kept [l] lot).map .int))), ("literal", .val (litD l)), ("some", .val (.list ((someOf lot).map litD))), ("lot", .val (.list (lot.map .int))), ("every", .val (.list (every.map .int)))]) (by keq_rows) ?_
  generalize hρ : ([("others", .val (.list (oth.map litD))), ("mine", .val (.list ((kept [l] every).map .int))), ("src", .src a (9, z)), ("left", .val (.list ((kept [l] lot).map .int))), ("literal", .val (litD l)), ("some", .val (.list ((someOf lot).map litD))), ("lot", .val (.list (lot.map .int))), ("every", .val (.list (every.map .int)))] : Rho) = ρB
  have hlist : (oth.map litD ++ [lit 1 l.2.1 l.2.2, neg l.1 l.2.1 l.2.2, litD l]) = (oth ++ [(1, l.2.1, l.2.2), negL l, l]).map litD := by
    rw [List.map_append, neg_negL]; rfl
  refine ex_cons (N₁ := fun ρ' => ρ' = ρB) (for_list (ds := (oth ++ [(1, l.2.1, l.2.2), negL l, l]).map litD) (fun _ ρ' => ρ' = ρB) (hi_of_ev (k := (9, z)) rfl (by rw [← hρ]; keq_rows) ?_) rfl ?_ fun _ => rfl) ?_
  · subst hρ
    rw [← hlist]
    refine ev_bin (ev_name (.head _)) (ev_list (evs_cons (d := lit 1 l.2.1 l.2.2) ?_ (evs_cons ?_ (evs_cons (ev_name (by keq_rows)) evs_nil rfl) rfl) rfl) (Nat.le_of_ble_eq_true rfl)) (bo_addL (by simp; omega))
    · refine ev_tuple (evs_cons ev_int (evs_cons (d := .str l.2.1.str) ?_ (evs_cons (d := .int l.2.2) ?_ evs_nil rfl) rfl) rfl) (Nat.le_of_ble_eq_true rfl)
      · exact ev_itemT (l := [.int l.1, .str l.2.1.str, .int l.2.2]) (j := 1) (k := 1) (ev_name (by keq_rows)) ev_int rfl rfl (by decide) (by decide) fun _ _ => rfl
      · exact ev_itemT (l := [.int l.1, .str l.2.1.str, .int l.2.2]) (j := 2) (k := 2) (ev_name (by keq_rows)) ev_int rfl rfl (by decide) (by decide) fun _ _ => rfl
    · exact ev_call r_negation recIs_mem rfl rfl (evs_cons (d := lit l.1 l.2.1 l.2.2) (ev_name (by keq_rows)) evs_nil rfl) negation_fn (by omega) rfl rfl
  · rintro pre x post ρ' hds rfl
    have hxm : x ∈ (oth ++ [(1, l.2.1, l.2.2), negL l, l]).map litD := by rw [hds]; simp
    obtain ⟨o, ho, rfl⟩ := List.mem_map.mp hxm
    have hoo : o ∈ allLits 0 ∨ o = (1, l.2.1, l.2.2) ∨ o = negL l ∨ o = l := by
      rcases List.mem_append.mp ho with h | h
      · exact .inl (hothM o h)
      · simp only [List.mem_cons, List.not_mem_nil, or_false] at h
        exact .inr h
    obtain ⟨i1, i2⟩ := K.imp l hls o hoo
    subst hρ
    refine ⟨_, tg_name (by kas_types), ?_⟩
    refine ex_set (d := .list ((kept [o] every).map .int)) (kcall hev rfl (ev_name (.head _)) (ev_name (by keq_rows)) rfl rfl) (by kas_types) (off (k := (9, z)) (by keq_rows)) rfl ?_
    refine ex_ifSkip (b := impL l o != (o.1 == 0 && within (kept [l] every) (kept [o] every))) ?_ (by rw [i1]; simp) ?_
    · refine ts_cmp (d₁ := .bool (impL l o)) (d₂ := .bool (o.1 == 0 && within (kept [l] every) (kept [o] every))) ?_ (ev_and (ev_cmp (d₁ := .int o.1) ?_ ev_int co_eqI rfl) fun _ => wcall (Nat.le_trans (keptLen _ _) hev) rfl (ev_name (by keq_rows)) (ev_name (by keq_rows)) rfl rfl) co_neB rfl
      · exact ev_call r_implies recIs_mem rfl rfl (evs_cons (d := lit l.1 l.2.1 l.2.2) (ev_name (by keq_rows)) (evs_cons (d := lit o.1 o.2.1 o.2.2) (ev_name (by keq_rows)) evs_nil rfl) rfl) implies_fn (by omega) rfl rfl
      · exact ev_itemT (l := [.int o.1, .str o.2.1.str, .int o.2.2]) (j := 0) (k := 0) (ev_name (by keq_rows)) ev_int rfl rfl (by decide) (by decide) fun _ _ => rfl
    refine ex_ifSkip (b := impL o l != (o.1 == 0 && within (kept [o] every) (kept [l] every))) ?_ (by rw [i2]; simp) ?_
    · refine ts_cmp (d₁ := .bool (impL o l)) (d₂ := .bool (o.1 == 0 && within (kept [o] every) (kept [l] every))) ?_ (ev_and (ev_cmp (d₁ := .int o.1) ?_ ev_int co_eqI rfl) fun _ => wcall (Nat.le_trans (keptLen _ _) hev) rfl (ev_name (by keq_rows)) (ev_name (by keq_rows)) rfl rfl) co_neB rfl
      · exact ev_call r_implies recIs_mem rfl rfl (evs_cons (d := lit o.1 o.2.1 o.2.2) (ev_name (by keq_rows)) (evs_cons (d := lit l.1 l.2.1 l.2.2) (ev_name (by keq_rows)) evs_nil rfl) rfl) implies_fn (by omega) rfl rfl
      · exact ev_itemT (l := [.int o.1, .str o.2.1.str, .int o.2.2]) (j := 0) (k := 0) (ev_name (by keq_rows)) ev_int rfl rfl (by decide) (by decide) fun _ _ => rfl
    exact ex_nil ⟨_, fun p hp => .tail _ (.tail _ hp), rfl⟩
  intro ρ' hρ'
  rw [hρ']
  obtain ⟨low, b, r, l', c', high, e1, e2, b1, b2, er⟩ := K.ends
  refine ex_cons (N₁ := fun ρ' => ρ' = ρB) (for_list (ds := (someOf lot).map litD) (fun _ ρ' => ρ' = ρB) (hi_of_ev (k := (9, z)) rfl (by rw [← hρ]; keq_rows) (ev_name (by rw [← hρ]; keq_rows))) rfl ?_ fun _ => rfl) ?_
  · rintro pre x post ρ' hds rfl
    have hxm : x ∈ (someOf lot).map litD := by rw [hds]; simp
    obtain ⟨w, hw, rfl⟩ := List.mem_map.mp hxm
    subst hρ
    refine ⟨_, tg_name (by kas_types), ?_⟩
    refine ex_ifSkip (b := (kept [w] (kept [l] lot) == kept [l] lot) && (!eldersRight l w lot every (toldOf l w (fromV lot) low high) && true)) ?_ ?_ (ex_nil ⟨_, fun p hp => .tail _ hp, rfl⟩)
    · refine ts_bool (tsa_and (ts_cmp (kcall (by omega) rfl (ev_name (.head _)) (ev_name (by keq_rows)) rfl rfl) (ev_name (by keq_rows)) co_eqZs rfl) fun _ => tsa_and (ts_not (Ev.toTs ?_)) fun _ => tsa_and_nil)
      exact ev_call r_law_elders_right recIs_mem rfl rfl (evs_cons (d := litD l) (ev_name (by keq_rows)) (evs_cons (d := .list (lot.map .int)) (ev_name (by keq_rows)) (evs_cons (d := litD w) (ev_name (by keq_rows)) (evs_cons (d := .list (every.map .int)) (ev_name (by keq_rows)) evs_nil rfl) rfl) rfl) rfl) (law_elders_right_fn hlotlen K.rises hev e1 e2 b1 b2) (by omega) rfl rfl
    · cases hq : kept [w] (kept [l] lot) == kept [l] lot
      · rfl
      · rw [er l hls w hw (by simpa using hq)]; rfl
  rintro ρ' rfl
  exact ex_ret (d := .bool true) ev_bool rfl
noncomputable def bigLits : List Lit := sgs.flatMap fun s => (intsAB (-3) 11).map fun k => ((0 : Int), s, k)
noncomputable def covers (ls : List Lit) (o : Lit) : Bool := every.all fun v => !meets ls v || isMet o.2.1 o.2.2 v
theorem tab_imp : (bigLits.all fun l => bigLits.all fun o => impL l o == covers [l] o) = true := by decide +kernel
theorem within_iff {a b : List Int} : within a b = true ↔ ∀ v ∈ a, v ∈ b := by
  unfold within
  rw [beq_iff_eq, List.filter_eq_nil_iff]
  constructor
  · intro h v hv; have := h v hv; simpa using this
  · intro h v hv; have := h v hv; simpa using this
theorem within_kept {ls : List Lit} {o : Lit} : within (kept ls every) (kept [o] every) = covers ls o := by
  rw [Bool.eq_iff_iff, within_iff]
  unfold covers kept
  rw [List.all_eq_true]
  constructor
  · intro h v hv
    cases hm : meets ls v
    · rfl
    · have := (List.mem_filter.mp (h v (List.mem_filter.mpr ⟨hv, hm⟩))).2
      simpa [meets] using this
  · intro h v hv
    obtain ⟨h1, h2⟩ := List.mem_filter.mp hv
    have := h v h1
    rw [h2] at this
    exact List.mem_filter.mpr ⟨h1, by simpa [meets] using this⟩
noncomputable def right' (l w : Lit) (lot : List Int) (told : List Lit) : Bool :=
  told.all (fun one => !odd l lot one) && covers ([l] ++ told) w && (List.range told.length).all (fun i => !covers ([l] ++ told.take i ++ told.drop (i + 1)) w) && ((told == []) == impL l w)
theorem right_of {l w : Lit} {lot : List Int} {told : List Lit} (h : right' l w lot told = true) : eldersRight l w lot every told = true := by
  unfold right' at h
  simp only [Bool.and_eq_true] at h
  obtain ⟨⟨⟨h1, h2⟩, h3⟩, h4⟩ := h
  unfold eldersRight
  have e1 : told.filter (odd l lot) = [] := by
    rw [List.filter_eq_nil_iff]
    intro a ha
    have := List.all_eq_true.mp h1 a ha
    simpa using this
  rw [e1, if_neg (by decide), within_kept, h2, if_neg (by decide)]
  unfold right3
  simp only [within_kept]
  rw [h3, if_neg (by decide)]
  exact h4
noncomputable def lowOf (lot : List Int) : Int := lot.headD 0
noncomputable def highOf (lot : List Int) : Int := lot.getLastD 0
noncomputable def endsB (lot : List Int) : Bool := (fromV lot).head?.map (·.1) == some (lowOf lot) && (fromV lot).getLast?.map (·.2) == some (highOf lot) && decide (-100 ≤ lowOf lot) && decide (lowOf lot ≤ 100) && decide (-100 ≤ highOf lot) && decide (highOf lot ≤ 100)
noncomputable def risesB (lot : List Int) : Bool := decide (lot.Pairwise (· ≤ ·)) && decide (lot.length < 64) && decide (0 < (someOf lot).length)
noncomputable def struckB (lot : List Int) : Bool := (someOf lot).all fun l => struck l.2.1 l.2.2 (fromV lot) == fromV (kept [l] lot) && saidOf l.2.1 l.2.2 (fromV (kept [l] lot)) == 1
theorem mem_intsAB {a b v : Int} : v ∈ intsAB a b ↔ a ≤ v ∧ v < b := by
  unfold intsAB
  rw [List.mem_map]
  constructor
  · rintro ⟨i, hi, rfl⟩
    have := List.mem_range.mp hi
    omega
  · rintro ⟨h1, h2⟩
    exact ⟨(v - a).toNat, List.mem_range.mpr (by omega), by omega⟩
theorem mem_allLits {l : Lit} (h : l ∈ allLits 0) : ∃ s k, l = (0, s, k) ∧ -2 ≤ k ∧ k < 10 := by
  unfold allLits at h
  obtain ⟨s, _, h⟩ := List.mem_flatMap.mp h
  obtain ⟨k, hk, rfl⟩ := List.mem_map.mp h
  obtain ⟨h1, h2⟩ := mem_intsAB.mp hk
  exact ⟨s, k, rfl, h1, h2⟩
theorem sgs_all (s : Sg) : s ∈ sgs := by cases s <;> decide
theorem mem_big {s : Sg} {k : Int} (h1 : -3 ≤ k) (h2 : k < 11) : ((0 : Int), s, k) ∈ bigLits := by
  unfold bigLits
  exact List.mem_flatMap.mpr ⟨s, sgs_all s, List.mem_map.mpr ⟨k, mem_intsAB.mpr ⟨h1, h2⟩, rfl⟩⟩
theorem imp_covers {s t : Sg} {k m : Int} (h1 : -3 ≤ k) (h2 : k < 11) (h3 : -3 ≤ m) (h4 : m < 11) : impL (0, s, k) (0, t, m) = covers [(0, s, k)] (0, t, m) := by
  have := List.all_eq_true.mp tab_imp _ (mem_big (s := s) h1 h2)
  have := List.all_eq_true.mp this _ (mem_big (s := t) h3 h4)
  simpa using this
theorem meets_iff {ls : List Lit} {v : Int} : meets ls v = true ↔ ∀ p ∈ ls, isMet p.2.1 p.2.2 v = true := List.all_eq_true
theorem covers_iff {ls : List Lit} {o : Lit} : covers ls o = true ↔ ∀ v, -5 ≤ v → v < 13 → (∀ p ∈ ls, isMet p.2.1 p.2.2 v = true) → isMet o.2.1 o.2.2 v = true := by
  unfold covers
  rw [List.all_eq_true]
  constructor
  · intro h v h1 h2 hm
    have := h v (mem_intsAB.mpr ⟨h1, h2⟩)
    rw [meets_iff.mpr hm] at this
    simpa using this
  · intro h v hv
    obtain ⟨h1, h2⟩ := mem_intsAB.mp hv
    cases hm : meets ls v
    · rfl
    · rw [h v h1 h2 (meets_iff.mp hm)]; rfl
theorem covers_false {ls : List Lit} {o : Lit} {v : Int} (h1 : -5 ≤ v) (h2 : v < 13) (hm : ∀ p ∈ ls, isMet p.2.1 p.2.2 v = true) (ho : isMet o.2.1 o.2.2 v = false) : covers ls o = false := by
  cases h : covers ls o
  · rfl
  · have := covers_iff.mp h v h1 h2 hm
    rw [ho] at this; cases this
theorem met_le {k v : Int} : isMet .le k v = true ↔ v ≤ k := by simp [isMet]
theorem met_ge {k v : Int} : isMet .ge k v = true ↔ k ≤ v := by simp [isMet]
theorem met_eq {k v : Int} : isMet .eq k v = true ↔ v = k := by simp [isMet]
theorem met_ne {k v : Int} : isMet .ne k v = true ↔ v ≠ k := by simp [isMet]
theorem not_le' {k v : Int} : isMet .le k v = false ↔ k < v := by simp [isMet]
theorem not_ge' {k v : Int} : isMet .ge k v = false ↔ v < k := by simp [isMet]
theorem not_eq' {k v : Int} : isMet .eq k v = false ↔ v ≠ k := by simp [isMet]
theorem not_ne' {k v : Int} : isMet .ne k v = false ↔ v = k := by simp [isMet]
noncomputable def eldersE (s : Sg) (k : Int) (t : Sg) (m : Int) (d : List (Int × Int)) (low high : Int) : List (Sg × Int) := elders1 s t high ++ elders2 s t low ++ (intsAB low (high + 1)).flatMap (eldersV s k t m d)
section
variable {s t : Sg} {k m low high : Int} {d : List (Int × Int)} {p : Sg × Int}
theorem mem_eld1 : p ∈ elders1 s t high ↔ p = (.le, high) ∧ (s = .ge ∨ s = .ne) ∧ (t = .le ∨ t = .eq) := by
  cases s <;> cases t <;> simp [elders1]
theorem mem_eld2 : p ∈ elders2 s t low ↔ p = (.ge, low) ∧ (s = .le ∨ s = .ne) ∧ (t = .ge ∨ t = .eq) := by
  cases s <;> cases t <;> simp [elders2]
theorem mem_eld3 : p ∈ (intsAB low (high + 1)).flatMap (eldersV s k t m d) ↔ ∃ v, (low ≤ v ∧ v ≤ high) ∧ (hasB d v = false ∧ isMet s k v = true ∧ isMet t m v = false) ∧ p = (.ne, v) := by
  rw [List.mem_flatMap]
  constructor
  · rintro ⟨v, hv, hp⟩
    obtain ⟨h1, h2⟩ := mem_intsAB.mp hv
    unfold eldersV at hp
    split at hp
    · rename_i hc
      simp only [Bool.and_eq_true, Bool.not_eq_true'] at hc
      exact ⟨v, ⟨h1, by omega⟩, hc, List.mem_singleton.mp hp⟩
    · cases hp
  · rintro ⟨v, ⟨h1, h2⟩, ⟨c1, c2, c3⟩, rfl⟩
    refine ⟨v, mem_intsAB.mpr ⟨h1, by omega⟩, ?_⟩
    unfold eldersV
    rw [c1, c2, c3]
    exact .head _
theorem mem_eldE : p ∈ eldersE s k t m d low high ↔ (p = (.le, high) ∧ (s = .ge ∨ s = .ne) ∧ (t = .le ∨ t = .eq)) ∨ (p = (.ge, low) ∧ (s = .le ∨ s = .ne) ∧ (t = .ge ∨ t = .eq)) ∨
    ∃ v, (low ≤ v ∧ v ≤ high) ∧ (hasB d v = false ∧ isMet s k v = true ∧ isMet t m v = false) ∧ p = (.ne, v) := by
  unfold eldersE
  rw [List.mem_append, List.mem_append, mem_eld1, mem_eld2, mem_eld3, or_assoc]
theorem eld3_nodup : ((intsAB low (high + 1)).flatMap (eldersV s k t m d)).Nodup := by
  have e : ∀ ns : List Int, ns.flatMap (eldersV s k t m d) = (ns.filter fun v => !hasB d v && (isMet s k v && !isMet t m v)).map fun v => (Sg.ne, v) := fun ns => by
    induction ns with
    | nil => rfl
    | cons v ns ih =>
      rw [List.flatMap_cons, ih, List.filter_cons]
      unfold eldersV
      split <;> simp_all
  rw [e]
  have hn : (intsAB low (high + 1)).Nodup := by
    unfold intsAB
    refine List.Pairwise.map _ (fun a b h => ?_) List.nodup_range
    intro e; exact h (by omega)
  refine List.Pairwise.map _ (fun a b h => ?_) (hn.filter _)
  intro e; cases e; exact h rfl
theorem eldE_nodup : (eldersE s k t m d low high).Nodup := by
  unfold eldersE
  refine List.nodup_append.mpr ⟨List.nodup_append.mpr ⟨?_, ?_, ?_⟩, eld3_nodup, ?_⟩
  · unfold elders1; split <;> simp
  · unfold elders2; split <;> simp
  · intro a ha b hb
    rw [(mem_eld1.mp ha).1, (mem_eld2.mp hb).1]
    intro e; cases e
  · intro a ha b hb
    obtain ⟨v, _, _, rfl⟩ := mem_eld3.mp hb
    rcases List.mem_append.mp ha with h | h
    · rw [(mem_eld1.mp h).1]; intro e; cases e
    · rw [(mem_eld2.mp h).1]; intro e; cases e
end
structure Plain (lot : List Int) (low high : Int) : Prop where
  bound : ∀ u ∈ lot, low ≤ u ∧ u ≤ high
  lo : 0 ≤ low
  hi : high ≤ 7
  has : ∀ v, low ≤ v → v ≤ high → hasB (fromV lot) v = lot.contains v
theorem some_facts {lot : List Int} {l : Lit} (h : l ∈ someOf lot) : ∃ s k, l = (0, s, k) ∧ (-2 ≤ k ∧ k < 10) ∧ (∃ u ∈ lot, isMet s k u = true) ∧ (∃ u ∈ lot, isMet s k u = false) := by
  unfold someOf at h
  obtain ⟨h1, h2⟩ := List.mem_filter.mp h
  obtain ⟨s, k, rfl, hk⟩ := mem_allLits h1
  refine ⟨s, k, rfl, hk, ?_⟩
  simp only [Bool.not_eq_true', Bool.or_eq_false_iff, beq_eq_false_iff_ne, ne_eq] at h2
  obtain ⟨n1, n2⟩ := h2
  constructor
  · cases hq : kept [(0, s, k)] lot with
    | nil => exact absurd hq.symm n1
    | cons u r =>
      have : u ∈ kept [(0, s, k)] lot := by rw [hq]; exact .head _
      obtain ⟨a, b⟩ := List.mem_filter.mp this
      exact ⟨u, a, meets_iff.mp b _ (.head _)⟩
  · refine Classical.byContradiction fun hc => n2 (Eq.symm ?_)
    unfold kept
    rw [List.filter_eq_self]
    intro u hu
    refine meets_iff.mpr fun p hp => ?_
    obtain rfl := List.mem_singleton.mp hp
    cases hq : isMet s k u
    · exact absurd ⟨u, hu, hq⟩ hc
    · rfl
theorem covers_told {lot : List Int} {low high : Int} (P : Plain lot low high) {s t : Sg} {k m : Int} (h1 : ∃ u ∈ lot, isMet s k u = true) (h2 : ∃ u ∈ lot, isMet s k u = false)
    (g2 : ∃ u ∈ lot, isMet t m u = false) (hsub : ∀ u ∈ lot, isMet s k u = true → isMet t m u = true) :
    covers ([(0, s, k)] ++ (eldersE s k t m (fromV lot) low high).map (elder 0)) (0, t, m) = true := by
  refine covers_iff.mpr fun v v1 v2 hv => ?_
  have hl : isMet s k v = true := hv _ (.head _)
  have ht : ∀ p ∈ eldersE s k t m (fromV lot) low high, isMet p.1 p.2 v = true := fun p hp => hv (elder 0 p) (List.mem_append_right _ (List.mem_map.mpr ⟨p, hp, rfl⟩))
  show isMet t m v = true
  cases hw : isMet t m v
  case true => rfl
  exfalso
  obtain ⟨u1, a1, b1⟩ := h1
  obtain ⟨u2, a2, b2⟩ := h2
  obtain ⟨u3, a3, b3⟩ := g2
  have c1 := hsub u1 a1 b1
  have d1 := P.bound u1 a1
  have d2 := P.bound u2 a2
  have d3 := P.bound u3 a3
  by_cases hin : low ≤ v ∧ v ≤ high
  · by_cases hlot : v ∈ lot
    · rw [hsub v hlot hl] at hw; cases hw
    · have hh : hasB (fromV lot) v = false := by
        rw [P.has v hin.1 hin.2]
        simpa using hlot
      have := ht (.ne, v) (mem_eldE.mpr (.inr (.inr ⟨v, hin, ⟨hh, hl, hw⟩, rfl⟩)))
      exact met_ne.mp this rfl
  · have e1 : (s = .ge ∨ s = .ne) → (t = .le ∨ t = .eq) → v ≤ high := fun x y => met_le.mp (ht (.le, high) (mem_eldE.mpr (.inl ⟨rfl, x, y⟩)))
    have e2 : (s = .le ∨ s = .ne) → (t = .ge ∨ t = .eq) → low ≤ v := fun x y => met_ge.mp (ht (.ge, low) (mem_eldE.mpr (.inr (.inl ⟨rfl, x, y⟩))))
    cases s <;> cases t <;> simp only [met_le, met_ge, met_eq, met_ne, not_le', not_ge', not_eq', not_ne'] at hl hw b1 b2 b3 c1 <;> simp at e1 e2 <;> omega
theorem right_told {lot : List Int} {low high : Int} (P : Plain lot low high) {s t : Sg} {k m : Int} (hk : -2 ≤ k ∧ k < 10) (hm : -2 ≤ m ∧ m < 10) {told : List Lit} (hE : told = (eldersE s k t m (fromV lot) low high).map (elder 0)) (hlh : low ≤ high) {i : Nat} (hi : i < told.length) :
    covers ([(0, s, k)] ++ told.take i ++ told.drop (i + 1)) (0, t, m) = false := by
  have hlo := P.lo
  have hhi := P.hi
  obtain ⟨p, hp⟩ : ∃ p, (eldersE s k t m (fromV lot) low high)[i]? = some p := ⟨_, List.getElem?_eq_getElem (by rw [hE, List.length_map] at hi; exact hi)⟩
  have hpm : p ∈ eldersE s k t m (fromV lot) low high := List.mem_of_getElem? hp
  have hrest : ∀ q ∈ told.take i ++ told.drop (i + 1), ∃ r, r ∈ eldersE s k t m (fromV lot) low high ∧ r ≠ p ∧ q = elder 0 r := by
    intro q hq
    rw [hE, ← List.map_take, ← List.map_drop, ← List.map_append] at hq
    obtain ⟨r, hr, rfl⟩ := List.mem_map.mp hq
    have hnd := eldE_nodup (s := s) (k := k) (t := t) (m := m) (d := fromV lot) (low := low) (high := high)
    have hsplit : eldersE s k t m (fromV lot) low high = (eldersE s k t m (fromV lot) low high).take i ++ p :: (eldersE s k t m (fromV lot) low high).drop (i + 1) := by
      have hlt : i < (eldersE s k t m (fromV lot) low high).length := (List.getElem?_eq_some_iff.mp hp).1
      have e : (eldersE s k t m (fromV lot) low high)[i] = p := (List.getElem?_eq_some_iff.mp hp).2
      rw [← e, List.getElem_cons_drop]
      exact (List.take_append_drop i _).symm
    rw [hsplit] at hnd
    obtain ⟨_, n2, n3⟩ := List.nodup_append.mp hnd
    refine ⟨r, ?_, ?_, rfl⟩
    · rcases List.mem_append.mp hr with h | h
      · exact List.mem_of_mem_take h
      · exact List.mem_of_mem_drop h
    · rcases List.mem_append.mp hr with h | h
      · exact n3 r h p (.head _)
      · intro e
        exact (List.nodup_cons.mp n2).1 (e ▸ h)
  have main : ∀ v, -5 ≤ v → v < 13 → isMet s k v = true → isMet t m v = false → (∀ r ∈ eldersE s k t m (fromV lot) low high, r ≠ p → isMet r.1 r.2 v = true) → covers ([(0, s, k)] ++ told.take i ++ told.drop (i + 1)) (0, t, m) = false := fun v v1 v2 a b c => by
    refine covers_false v1 v2 (fun q hq => ?_) b
    rw [List.append_assoc] at hq
    rcases List.mem_append.mp hq with hq | hq
    · obtain rfl := List.mem_singleton.mp hq
      exact a
    · obtain ⟨r, h1, h2, rfl⟩ := hrest q hq
      exact c r h1 h2
  rcases mem_eldE.mp hpm with ⟨rfl, hs, ht⟩ | ⟨rfl, hs, ht⟩ | ⟨u, hu, ⟨_, hu1, hu2⟩, rfl⟩
  · refine main 12 (by decide) (by decide) ?_ ?_ fun r hr hne => ?_
    · rcases hs with rfl | rfl
      · exact met_ge.mpr (by omega)
      · exact met_ne.mpr (by omega)
    · rcases ht with rfl | rfl
      · exact not_le'.mpr (by omega)
      · exact not_eq'.mpr (by omega)
    · rcases mem_eldE.mp hr with ⟨rfl, _⟩ | ⟨rfl, _⟩ | ⟨u, hu, _, rfl⟩
      · exact absurd rfl hne
      · exact met_ge.mpr (by omega)
      · exact met_ne.mpr (by omega)
  · refine main (-5) (by decide) (by decide) ?_ ?_ fun r hr hne => ?_
    · rcases hs with rfl | rfl
      · exact met_le.mpr (by omega)
      · exact met_ne.mpr (by omega)
    · rcases ht with rfl | rfl
      · exact not_ge'.mpr (by omega)
      · exact not_eq'.mpr (by omega)
    · rcases mem_eldE.mp hr with ⟨rfl, _⟩ | ⟨rfl, _⟩ | ⟨u, hu, _, rfl⟩
      · exact met_le.mpr (by omega)
      · exact absurd rfl hne
      · exact met_ne.mpr (by omega)
  · refine main u (by omega) (by omega) hu1 hu2 fun r hr hne => ?_
    rcases mem_eldE.mp hr with ⟨rfl, _⟩ | ⟨rfl, _⟩ | ⟨z, hz, _, rfl⟩
    · exact met_le.mpr hu.2
    · exact met_ge.mpr hu.1
    · exact met_ne.mpr fun e => hne (by rw [e])
theorem elders_ok {lot : List Int} {low high : Int} (P : Plain lot low high) {l w : Lit} (hl : l ∈ someOf lot) (hw : w ∈ someOf lot) (hsub : kept [w] (kept [l] lot) = kept [l] lot) :
    eldersRight l w lot every (toldOf l w (fromV lot) low high) = true := by
  obtain ⟨s, k, rfl, hk, h1, h2⟩ := some_facts hl
  obtain ⟨t, m, rfl, hm, g1, g2⟩ := some_facts hw
  have hsub' : ∀ u ∈ lot, isMet s k u = true → isMet t m u = true := fun u hu hs => by
    have : u ∈ kept [(0, s, k)] lot := List.mem_filter.mpr ⟨hu, meets_iff.mpr fun p hp => by obtain rfl := List.mem_singleton.mp hp; exact hs⟩
    rw [← hsub] at this
    exact meets_iff.mp (List.mem_filter.mp this).2 _ (.head _)
  have himp : impL (0, s, k) (0, t, m) = covers [(0, s, k)] (0, t, m) := imp_covers (by omega) (by omega) (by omega) (by omega)
  have hlh : low ≤ high := by
    obtain ⟨u, hu, _⟩ := h1
    have := P.bound u hu
    omega
  refine right_of ?_
  have htold : toldOf (0, s, k) (0, t, m) (fromV lot) low high = if impL (0, s, k) (0, t, m) then [] else (eldersE s k t m (fromV lot) low high).map (elder 0) := by
    unfold toldOf elders
    show List.map _ (if impL (0, s, k) (0, t, m) = true then _ else _) = _
    split <;> rfl
  cases hi : impL (0, s, k) (0, t, m)
  case true =>
    rw [htold, hi, if_pos rfl]
    unfold right'
    rw [hi]
    have hc : covers ([(0, s, k)] ++ []) (0, t, m) = true := by rw [List.append_nil, ← himp, hi]
    rw [hc]; rfl
  rw [htold, hi, if_neg (by decide)]
  generalize hE : (eldersE s k t m (fromV lot) low high).map (elder 0) = told
  have hcov : covers ([(0, s, k)] ++ told) (0, t, m) = true := by rw [← hE]; exact covers_told P h1 h2 g2 hsub'
  unfold right'
  rw [hi, hcov]
  simp only [Bool.and_eq_true]
  refine ⟨⟨⟨?_, trivial⟩, ?_⟩, ?_⟩
  · refine List.all_eq_true.mpr fun one ho => ?_
    rw [← hE] at ho
    obtain ⟨p, hp, rfl⟩ := List.mem_map.mp ho
    have hkeep : kept [elder 0 p] lot = lot := by
      unfold kept
      rw [List.filter_eq_self]
      intro u hu
      have hb := P.bound u hu
      refine meets_iff.mpr fun q hq => ?_
      obtain rfl := List.mem_singleton.mp hq
      rcases mem_eldE.mp hp with ⟨rfl, _⟩ | ⟨rfl, _⟩ | ⟨z, hz, ⟨hz1, _⟩, rfl⟩
      · exact met_le.mpr hb.2
      · exact met_ge.mpr hb.1
      · refine met_ne.mpr fun e => ?_
        rw [P.has z hz.1 hz.2] at hz1
        have e' : u = z := e
        subst e'
        have : lot.contains u = true := by simpa using hu
        rw [this] at hz1; cases hz1
    unfold odd
    rw [hkeep]
    simp [elder]
  · refine List.all_eq_true.mpr fun i hi' => ?_
    rw [right_told P hk hm hE.symm hlh (List.mem_range.mp hi')]; rfl
  · cases hq : told with
    | nil =>
      rw [hq, List.append_nil, ← himp, hi] at hcov; cases hcov
    | cons a b => rfl
noncomputable def lots4 : List (List Int) := [
  [0, 1], [0, 1, 2], [0, 1, 3], [0, 1, 2, 3], [0, 1, 2, 4], [0, 1, 3, 4], [0, 1, 3, 5], [0, 1, 2, 3, 4], [0, 1, 2, 3, 5], [0, 1, 2, 4, 5], [0, 1, 2, 4, 6], [0, 1, 3, 4, 5],
  [0, 1, 3, 4, 6], [0, 1, 3, 5, 6], [0, 1, 3, 5, 7], [0, 1, 2, 3, 4, 5], [0, 1, 2, 3, 4, 6], [0, 1, 2, 3, 5, 6], [0, 1, 2, 3, 5, 7], [0, 1, 2, 4, 5, 6], [0, 1, 2, 4, 5, 7], [0, 1, 2, 4, 6, 7], [0, 1, 3, 4, 5, 6], [0, 1, 3, 4, 5, 7],
  [0, 1, 3, 4, 6, 7], [0, 1, 3, 5, 6, 7], [0, 2], [0, 2, 3], [0, 2, 4], [0, 2, 3, 4], [0, 2, 3, 5], [0, 2, 4, 5], [0, 2, 4, 6], [0, 2, 3, 4, 5], [0, 2, 3, 4, 6], [0, 2, 3, 5, 6],
  [0, 2, 3, 5, 7], [0, 2, 4, 5, 6], [0, 2, 4, 5, 7], [0, 2, 4, 6, 7], [0, 2, 3, 4, 5, 6], [0, 2, 3, 4, 5, 7], [0, 2, 3, 4, 6, 7], [0, 2, 3, 5, 6, 7], [0, 2, 4, 5, 6, 7], [0, 3], [0, 3, 4], [0, 3, 5],
  [0, 3, 4, 5], [0, 3, 4, 6], [0, 3, 5, 6], [0, 3, 5, 7], [0, 3, 4, 5, 6], [0, 3, 4, 5, 7], [0, 3, 4, 6, 7], [0, 3, 5, 6, 7], [0, 3, 4, 5, 6, 7], [1, 2], [1, 2, 3], [1, 2, 4],
  [1, 2, 3, 4], [1, 2, 3, 5], [1, 2, 4, 5], [1, 2, 4, 6], [1, 2, 3, 4, 5], [1, 2, 3, 4, 6], [1, 2, 3, 5, 6], [1, 2, 3, 5, 7], [1, 2, 4, 5, 6], [1, 2, 4, 5, 7], [1, 2, 4, 6, 7], [1, 2, 3, 4, 5, 6],
  [1, 2, 3, 4, 5, 7], [1, 2, 3, 4, 6, 7], [1, 2, 3, 5, 6, 7], [1, 2, 4, 5, 6, 7], [1, 3], [1, 3, 4], [1, 3, 5], [1, 3, 4, 5], [1, 3, 4, 6], [1, 3, 5, 6], [1, 3, 5, 7], [1, 3, 4, 5, 6],
  [1, 3, 4, 5, 7], [1, 3, 4, 6, 7], [1, 3, 5, 6, 7], [1, 3, 4, 5, 6, 7], [1, 4], [1, 4, 5], [1, 4, 6], [1, 4, 5, 6], [1, 4, 5, 7], [1, 4, 6, 7], [1, 4, 5, 6, 7]]
theorem lots4_eq : lotsN 4 = lots4 := by decide +kernel
noncomputable def plainB (lot : List Int) : Bool := lot.all (fun u => decide (lowOf lot ≤ u) && decide (u ≤ highOf lot)) && decide (0 ≤ lowOf lot) && decide (highOf lot ≤ 7) && (intsAB (lowOf lot) (highOf lot + 1)).all fun v => hasB (fromV lot) v == lot.contains v
noncomputable def okB (lot : List Int) : Bool := risesB lot && struckB lot && endsB lot && plainB lot
theorem tab0 : ((lots4.drop 0).take 16).all okB = true := by decide +kernel
theorem tab1 : ((lots4.drop 16).take 16).all okB = true := by decide +kernel
theorem tab2 : ((lots4.drop 32).take 16).all okB = true := by decide +kernel
theorem tab3 : ((lots4.drop 48).take 16).all okB = true := by decide +kernel
theorem tab4 : ((lots4.drop 64).take 16).all okB = true := by decide +kernel
theorem tab5 : (lots4.drop 80).all okB = true := by decide +kernel
theorem tab_split : lots4 = (lots4.drop 0).take 16 ++ ((lots4.drop 16).take 16 ++ ((lots4.drop 32).take 16 ++ ((lots4.drop 48).take 16 ++ ((lots4.drop 64).take 16 ++ lots4.drop 80)))) := by rfl
theorem tab : ∀ lot ∈ lotsN 4, okB lot = true := by
  intro lot h
  rw [lots4_eq, tab_split] at h
  rcases List.mem_append.mp h with h | h
  · exact List.all_eq_true.mp tab0 _ h
  rcases List.mem_append.mp h with h | h
  · exact List.all_eq_true.mp tab1 _ h
  rcases List.mem_append.mp h with h | h
  · exact List.all_eq_true.mp tab2 _ h
  rcases List.mem_append.mp h with h | h
  · exact List.all_eq_true.mp tab3 _ h
  rcases List.mem_append.mp h with h | h
  · exact List.all_eq_true.mp tab4 _ h
  · exact List.all_eq_true.mp tab5 _ h
theorem lots_ok : ∀ lot ∈ lotsN 4, LotOk lot := by
  intro lot hlot
  have h := tab lot hlot
  unfold okB risesB struckB endsB plainB at h
  simp only [Bool.and_eq_true, decide_eq_true_eq, beq_iff_eq] at h
  obtain ⟨⟨⟨⟨⟨r1, r2⟩, r3⟩, st⟩, ⟨⟨⟨⟨e1, e2⟩, b1⟩, b2⟩, b3⟩, b4⟩, ⟨⟨p1, p2⟩, p3⟩, p4⟩ := h
  have st' := List.all_eq_true.mp st
  have p1' := List.all_eq_true.mp p1
  have p4' := List.all_eq_true.mp p4
  have P : Plain lot (lowOf lot) (highOf lot) := by
    refine ⟨fun u hu => ?_, p2, p3, fun v h1 h2 => ?_⟩
    · have := p1' u hu
      simpa using this
    · have := p4' v (mem_intsAB.mpr ⟨h1, by omega⟩)
      simpa using this
  refine ⟨r1, r2, r3, fun l hl => ?_, fun l hl => ?_, fun l hl o ho => ?_, ?_⟩
  · have := st' l hl
    simp only [Bool.and_eq_true, beq_iff_eq] at this
    exact this.1
  · have := st' l hl
    simp only [Bool.and_eq_true, beq_iff_eq] at this
    exact this.2
  · obtain ⟨s, k, rfl, hk, _, _⟩ := some_facts hl
    have main : ∀ t m, -3 ≤ m → m < 11 → impL (0, s, k) (0, t, m) = ((0 : Int) == 0 && within (kept [(0, s, k)] every) (kept [(0, t, m)] every)) ∧ impL (0, t, m) (0, s, k) = ((0 : Int) == 0 && within (kept [(0, t, m)] every) (kept [(0, s, k)] every)) := fun t m h1 h2 => by
      rw [within_kept, within_kept, imp_covers (by omega) (by omega) h1 h2, imp_covers h1 h2 (by omega) (by omega)]
      exact ⟨rfl, rfl⟩
    rcases ho with ho | rfl | rfl | rfl
    · obtain ⟨t, m, rfl, hm⟩ := mem_allLits ho
      exact main t m (by omega) (by omega)
    · exact ⟨rfl, rfl⟩
    · cases s
      · exact main .ge (k + 1) (by omega) (by omega)
      · exact main .le (k - 1) (by omega) (by omega)
      · exact main .ne k (by omega) (by omega)
      · exact main .eq k (by omega) (by omega)
    · exact main s k (by omega) (by omega)
  · have g1 : ∃ b r, fromV lot = (lowOf lot, b) :: r := by
      cases hq : fromV lot with
      | nil => rw [hq] at e1; cases e1
      | cons p r =>
        rw [hq] at e1
        have : p.1 = lowOf lot := by simpa using e1
        exact ⟨p.2, r, by rw [← this]⟩
    have g2 : ∃ l' c, fromV lot = l' ++ [(c, highOf lot)] := by
      rcases List.eq_nil_or_concat (fromV lot) with hq | ⟨l', p, hq⟩
      · rw [hq] at e2; cases e2
      · rw [List.concat_eq_append] at hq
        rw [hq, List.getLast?_concat] at e2
        have : p.2 = highOf lot := by simpa using e2
        exact ⟨l', p.1, by rw [hq, ← this]⟩
    obtain ⟨b, r, g1⟩ := g1
    obtain ⟨l', c, g2⟩ := g2
    exact ⟨lowOf lot, b, r, l', c, highOf lot, g1, g2, ⟨b1, b2⟩, ⟨b3, b4⟩, fun l hl w hw hsub => elders_ok P hl hw hsub⟩
theorem law_end {W : Wd} (kn : Knows W) {g h : Heap} {A₀ : Around} {base : Heap} {outer : List Env} {fa : Addr} {cd : Value} {m : Str → Option Value} {o₁ o₂ : Obj} {a : Addr} {vs : List Value} {xs : List Int}
    (T : Top W.p W.loose W.mean W.mg W.mb g) (B : Below A₀ base outer g) (hA : A₀.frames = some outer) (hh : A₀.handled = none) (hd : A₀.depth ≤ 500) (hu : A₀.units ≤ 1000)
    (F : Fr g g.objs.size h m) (N : News g g.objs.size h [(g.objs.size + 1 + 1, o₁), (g.objs.size + 1, o₂)]) (c₁ : ∃ v, o₁.data = .cell v) (c₂ : ∃ v, o₂.data = .cell v) (hv : m "script" = some (.ref a)) (hL : g.IsList a vs.toArray) (hI : IntsAre vs xs) (hx : xs.length < 64)
    (ok : ∀ lot ∈ lotsN 4, LotOk lot) {s : Shared} {Q : Flow → Shared → Prop} {E : Value → Shared → Prop} (k : ∀ h' tk', Le g h' → Q (.ret (.bool true)) { s with heap := h', toks := tk' }) (hs : s.heap = h) :
    wpAny (model W.prog W.w) (A₀.deeper (envOfC r_law.name r_law.scope g.objs.size fa cd)) (execs r_law.body (envOfC r_law.name r_law.scope g.objs.size fa cd)) Q E s := by
  subst hs
  have S : St W (A₀.deeper (envOfC r_law.name r_law.scope g.objs.size fa cd)) (envOfC r_law.name r_law.scope g.objs.size fa cd) 5 g [] [("script", .val (.list (xs.map .int)))] s.heap := by
    refine ⟨kn, hh, rfl, ?_, ?_, rfl, rfl, rfl, ⟨A₀, base, outer, B, Around.frames_deeper hA⟩, T, ⟨m, F⟩, fun y c e => ?_, fun y z c e e' => ?_, fun b hb => (nomatch hb), fun p hp => ?_⟩
    · show A₀.depth + 1 + 5 < recursionLimit
      have : recursionLimit = 1000 := rfl
      omega
    · show A₀.units + 3 + 10 * 5 + 200 < cLine
      have : cLine = 9900 := by rfl
      omega
    · have hc : ([("side", g.objs.size + 1 + 1), ("lot", g.objs.size + 1)] : List (Str × Addr)).lookup y = some c := e
      have hm := mem_of_lookup hc
      simp only [List.mem_cons, List.not_mem_nil, or_false, Prod.mk.injEq] at hm
      obtain ⟨v₁, e₁⟩ := c₁
      obtain ⟨v₂, e₂⟩ := c₂
      rcases hm with ⟨_, rfl⟩ | ⟨_, rfl⟩
      · exact ⟨Heap.get?_none_of_le (Nat.le_add_right _ 2), Nat.ne_of_gt (Nat.lt_add_of_pos_right (by decide : 0 < 2)), v₁, o₁, (N _ (.head _)).1, e₁⟩
      · exact ⟨Heap.get?_none_of_le (Nat.le_add_right _ 1), Nat.ne_of_gt (Nat.lt_succ_self _), v₂, o₂, (N _ (.tail _ (.head _))).1, e₂⟩
    · have hc : ([("side", g.objs.size + 1 + 1), ("lot", g.objs.size + 1)] : List (Str × Addr)).lookup y = some c := e
      have hc' : ([("side", g.objs.size + 1 + 1), ("lot", g.objs.size + 1)] : List (Str × Addr)).lookup z = some c := e'
      refine name_of_addr (cs := [("side", g.objs.size + 1 + 1), ("lot", g.objs.size + 1)]) ?_ (mem_of_lookup hc) (mem_of_lookup hc')
      refine List.pairwise_cons.mpr ⟨fun q hq => ?_, List.pairwise_singleton _ _⟩
      obtain rfl := List.mem_singleton.mp hq
      exact Nat.ne_of_gt (Nat.lt_succ_self _)
    · obtain rfl := List.mem_singleton.mp hp
      refine ⟨.ref a, ⟨rfl, rfl, .inl ⟨rfl, m, F.ns, hv⟩⟩, ?_⟩
      exact ((Rd.ofList hL (by simpa using rd_of_intsAre hI)).up F.keep).off
  refine law_at _ _ _ _ _ 5 xs hx (by decide) ok s Q E S (fun _ _ _ h => h.elim) fun v d ρ' h' tk' e S' rd => ?_
  subst e
  obtain rfl := rd.bool
  exact k h' tk' S'.le
end Mine

local macro_rules | `(tactic| keq_hits) => `(tactic| (
  (rename Top _ _ _ _ _ _ => T)
  (rename Below _ _ _ _ => B)
  (rename Fr _ _ _ _ => F)
  (rename News _ _ _ _ => N)
  (rename Heap.IsList _ _ _ => hL)
  (rename IntsAre _ _ => hI)
  refine' Mine.law_end (W := ⟨_, _, _, _, _, _, _⟩) ?kn T B rfl rfl ?d1 ?d2 F N ?c1 ?c2 ?hv hL hI ?hx Mine.lots_ok ?k rfl
  (case d1 => decide)
  (case d2 => decide)
  (case c1 => exact ⟨_, by assumption⟩)
  (case c2 => exact ⟨_, by assumption⟩)
  (case hx => omega)
  (case hv => rfl)
  (case kn => exact ⟨by kernel_rfl, fun x hx => T.free x (by revert x; decide +kernel) (by revert x; decide +kernel) (by revert x; decide +kernel) (by revert x; decide +kernel) (by revert x; decide +kernel)⟩)
  (case k => (intro h' tk' le'; refine' ⟨Or.inl ⟨_, WData.bool true, [], rfl, raisesW_false ?hn, ReadsW.bool true, ?hp, ?hu⟩, le', rfl, ?hg⟩; (case hg => assumption); (case hu => exact fun _ => ⟨List.nodup_nil, fun _ h => absurd h List.not_mem_nil⟩); (case hn => wrow_none_raised); (case hp => exact postW_of (by first | assumption | wrow_shape) (by wtm_val) (by w_fin))))))
set_option maxRecDepth 100000 in
set_option maxHeartbeats 8000000 in
theorem PySem.Challenge.cw_nz0009_01_holds : PySem.Challenge.rw_nz0009_01.Holds := by
  (w_on; o_law; k_head; (case hw => w_witness2); w_strict (k_go0; keq_hits))
