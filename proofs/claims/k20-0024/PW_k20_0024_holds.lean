import PyProof.Rows.All
import Wide.All
import OpenK.AllK
import Wide.FinOn
import Lean
import PySem.Challenge.RW_k20_0024
set_option Elab.async false
set_option maxRecDepth 100000
set_option autoImplicit false
set_option linter.unusedVariables false
namespace Mine
open PySem PySem.Calls PyProof.Rows PySem.Spec

/-! ## heaps -/
def Kp (h h' : Heap) : Prop := ∀ b o, h.get? b = some o → h'.get? b = some o
theorem Kp.refl (h : Heap) : Kp h h := fun _ _ e => e
theorem Kp.trans {a b c : Heap} (x : Kp a b) (y : Kp b c) : Kp a c := fun p o e => y p o (x p o e)
theorem Kp.push (h : Heap) (o : Obj) : Kp h (h.push o) := fun _ _ e => Heap.get?_push_of_some _ e
theorem get_none_of_size (h : Heap) : h.get? h.objs.size = none := by
  cases e : h.get? h.objs.size with
  | none => rfl
  | some o => exact absurd (Heap.lt_size e) (Nat.lt_irrefl _)
theorem Kp.none {h h' : Heap} {a : Addr} (k : Kp h h') (e : h'.get? a = none) : h.get? a = none := by
  cases q : h.get? a with
  | none => rfl
  | some o => rw [k a o q] at e; cases e

/-- the same but for what was made anew, tokens and finished generators -/
structure Mv (s s' : Shared) : Prop where
  kp : Kp s.heap s'.heap
  os : s'.os = s.os
  gs : AllBare s.gens → AllBare s'.gens
theorem Mv.refl (s : Shared) : Mv s s := ⟨.refl _, rfl, id⟩
theorem Mv.trans {a b c : Shared} (x : Mv a b) (y : Mv b c) : Mv a c := ⟨x.kp.trans y.kp, y.os.trans x.os, fun g => y.gs (x.gs g)⟩
theorem Mv.of {s : Shared} {h' : Heap} {tk : Nat} (k : Kp s.heap h') : Mv s { s with heap := h', toks := tk } := ⟨k, rfl, id⟩
theorem Mv.tok {s : Shared} {tk : Nat} : Mv s { s with toks := tk } := ⟨.refl _, rfl, id⟩
theorem Mv.new {s : Shared} {o : Obj} : Mv s { s with heap := s.heap.push o } := ⟨.push _ _, rfl, id⟩
theorem Mv.heap {s : Shared} {h' : Heap} (k : Kp s.heap h') : Mv s { s with heap := h' } := ⟨k, rfl, id⟩
structure Mo (s s' : Shared) : Prop where
  os : s'.os = s.os
  gs : AllBare s.gens → AllBare s'.gens
theorem Mo.refl (s : Shared) : Mo s s := ⟨rfl, id⟩
theorem Mo.trans {a b c : Shared} (x : Mo a b) (y : Mo b c) : Mo a c := ⟨y.os.trans x.os, fun g => y.gs (x.gs g)⟩
theorem Mo.of {s : Shared} {h' : Heap} {tk : Nat} : Mo s { s with heap := h', toks := tk } := ⟨rfl, id⟩
theorem Mo.heap {s : Shared} {h' : Heap} : Mo s { s with heap := h' } := ⟨rfl, id⟩
theorem Mv.mo {s s' : Shared} (x : Mv s s') : Mo s s' := ⟨x.os, x.gs⟩
theorem Mo.mv {s s' : Shared} (x : Mo s s') (k : Kp s.heap s'.heap) : Mv s s' := ⟨k, x.os, x.gs⟩
/-- v reads as d in h, and touches no list of O -/
def Rp (O : Addr → Prop) (h : Heap) (v : Value) (d : PyData) : Prop := d.canLay0 = true ∧ ∃ as, Reads h v d as ∧ ∀ a ∈ as, ¬ O a
def RpAll (O : Addr → Prop) (h : Heap) (vs : List Value) (ds : List PyData) : Prop := PyData.canLayAll0 ds = true ∧ ∃ as, ReadsAll h vs ds as ∧ ∀ a ∈ as, ¬ O a
theorem canAll_cons {d : PyData} {ds : List PyData} : PyData.canLayAll0 (d :: ds) = true ↔ d.canLay0 = true ∧ PyData.canLayAll0 ds = true := by simp [PyData.canLayAll0]
section
variable {O O' : Addr → Prop} {h h' : Heap} {v : Value} {d : PyData} {vs ws : List Value} {ds es : List PyData}
theorem Rp.keeps (r : Rp O h v d) (k : Kp h h') : Rp O h' v d := let ⟨c, as, r, a⟩ := r; ⟨c, as, Reads.keeps k r, a⟩
theorem RpAll.keeps (r : RpAll O h vs ds) (k : Kp h h') : RpAll O h' vs ds := let ⟨c, as, r, a⟩ := r; ⟨c, as, ReadsAll.keeps k r, a⟩
theorem Rp.weak (r : Rp O h v d) (k : ∀ a, O' a → O a) : Rp O' h v d := let ⟨c, as, r, a⟩ := r; ⟨c, as, r, fun x hx q => a x hx (k x q)⟩
theorem RpAll.weak (r : RpAll O h vs ds) (k : ∀ a, O' a → O a) : RpAll O' h vs ds := let ⟨c, as, r, a⟩ := r; ⟨c, as, r, fun x hx q => a x hx (k x q)⟩
theorem RpAll.nil : RpAll O h [] [] := ⟨rfl, [], .nil, fun _ q => nomatch q⟩
theorem RpAll.cons (x : Rp O h v d) (r : RpAll O h vs ds) : RpAll O h (v :: vs) (d :: ds) := by
  obtain ⟨c, as, x, p⟩ := x
  obtain ⟨c', bs, r, q⟩ := r
  exact ⟨canAll_cons.mpr ⟨c, c'⟩, _, .cons x r, fun a ha => (List.mem_append.mp ha).elim (p a) (q a)⟩
theorem RpAll.head (r : RpAll O h (v :: vs) (d :: ds)) : Rp O h v d := by
  obtain ⟨c, as, r, p⟩ := r
  cases r with
  | cons r1 r2 => exact ⟨(canAll_cons.mp c).1, _, r1, fun a ha => p a (List.mem_append.mpr (.inl ha))⟩
theorem RpAll.tail (r : RpAll O h (v :: vs) (d :: ds)) : RpAll O h vs ds := by
  obtain ⟨c, as, r, p⟩ := r
  cases r with
  | cons r1 r2 => exact ⟨(canAll_cons.mp c).2, _, r2, fun a ha => p a (List.mem_append.mpr (.inr ha))⟩
theorem RpAll.length : ∀ {vs : List Value} {ds : List PyData}, RpAll O h vs ds → vs.length = ds.length
  | [], [], _ => rfl
  | [], _ :: _, ⟨_, _, r, _⟩ => by cases r
  | _ :: _, [], ⟨_, _, r, _⟩ => by cases r
  | _ :: _, _ :: _, r => by rw [List.length_cons, List.length_cons, RpAll.length r.tail]
theorem RpAll.get : ∀ {vs : List Value} {ds : List PyData}, RpAll O h vs ds → ∀ {i : Nat} {d : PyData}, ds[i]? = some d → ∃ v, vs[i]? = some v ∧ Rp O h v d
  | [], [], _, _, _, e => by simp at e
  | [], _ :: _, ⟨_, _, r, _⟩, _, _, _ => by cases r
  | _ :: _, [], ⟨_, _, r, _⟩, _, _, _ => by cases r
  | v :: _, d :: _, r, 0, _, e => by simp at e; subst e; exact ⟨v, rfl, r.head⟩
  | _ :: vs, _ :: ds, r, i + 1, _, e => by simpa using r.tail.get (by simpa using e)
theorem RpAll.append : ∀ {vs ws : List Value} {ds es : List PyData}, RpAll O h vs ds → RpAll O h ws es → RpAll O h (vs ++ ws) (ds ++ es)
  | [], _, [], _, _, k => k
  | [], _, _ :: _, _, ⟨_, _, r, _⟩, _ => by cases r
  | _ :: _, _, [], _, ⟨_, _, r, _⟩, _ => by cases r
  | _ :: _, _, _ :: _, _, r, k => .cons r.head (r.tail.append k)
theorem RpAll.drop : ∀ {vs : List Value} {ds : List PyData} (n : Nat), RpAll O h vs ds → RpAll O h (vs.drop n) (ds.drop n)
  | _, _, 0, r => r
  | [], [], _ + 1, r => r
  | [], _ :: _, _ + 1, ⟨_, _, r, _⟩ => by cases r
  | _ :: _, [], _ + 1, ⟨_, _, r, _⟩ => by cases r
  | _ :: _, _ :: _, n + 1, r => RpAll.drop n r.tail
theorem RpAll.set : ∀ {vs : List Value} {ds : List PyData} {v : Value} {d : PyData} (n : Nat), RpAll O h vs ds → Rp O h v d → RpAll O h (vs.set n v) (ds.set n d)
  | [], [], _, _, _, r, _ => r
  | [], _ :: _, _, _, _, ⟨_, _, r, _⟩, _ => by cases r
  | _ :: _, [], _, _, _, ⟨_, _, r, _⟩, _ => by cases r
  | _ :: _, _ :: _, _, _, 0, r, k => .cons k r.tail
  | _ :: _, _ :: _, _, _, n + 1, r, k => .cons r.head (r.tail.set n k)
theorem RpAll.replicate (r : Rp O h v d) : ∀ n, RpAll O h (List.replicate n v) (List.replicate n d)
  | 0 => .nil
  | n + 1 => by rw [List.replicate_succ, List.replicate_succ]; exact .cons r (RpAll.replicate r n)
theorem Rp.int (i : Int) (t : Tok) : Rp O h (.int i t) (.int i) := ⟨rfl, [], .int i t, fun _ q => nomatch q⟩
theorem Rp.bool (b : Bool) : Rp O h (.bool b) (.bool b) := ⟨rfl, [], .bool b, fun _ q => nomatch q⟩
theorem Rp.none : Rp O h .none .none := ⟨rfl, [], .none, fun _ q => nomatch q⟩
theorem Rp.int_inv {i : Int} (r : Rp O h v (.int i)) : ∃ t, v = .int i t := by obtain ⟨_, _, r, _⟩ := r; cases r; exact ⟨_, rfl⟩
theorem Rp.bool_inv {b : Bool} (r : Rp O h v (.bool b)) : v = .bool b := by obtain ⟨_, _, r, _⟩ := r; cases r; rfl
theorem Rp.none_inv (r : Rp O h v .none) : v = .none := by obtain ⟨_, _, r, _⟩ := r; cases r; rfl
theorem Rp.list_inv (r : Rp O h v (.list ds)) : ∃ a vs, v = .ref a ∧ h.IsList a vs.toArray ∧ RpAll O h vs ds ∧ ¬ O a := by
  obtain ⟨c, as, r, p⟩ := r
  cases r with
  | @list a o vs n xs as h1 h2 h3 h4 => exact ⟨a, vs.toList, rfl, ⟨o, h1, h2, n, by simpa using h3⟩, ⟨c, _, h4, fun b hb => p b (List.mem_cons_of_mem _ hb)⟩, p a List.mem_cons_self⟩
theorem Rp.tuple_inv (r : Rp O h v (.tuple ds)) : ∃ a vs, v = .ref a ∧ IsTup h a vs.toArray ∧ RpAll O h vs ds := by
  obtain ⟨c, as, r, p⟩ := r
  cases r with
  | @tuple a o vs n xs as h1 h2 h3 h4 => exact ⟨a, vs.toList, rfl, ⟨o, h1, h2, n, by simpa using h3⟩, ⟨c, _, h4, p⟩⟩
theorem Rp.of_list {a : Addr} (x : h.IsList a vs.toArray) (r : RpAll O h vs ds) (ha : ¬ O a) : Rp O h (.ref a) (.list ds) := by
  obtain ⟨o, e, c, n, dd⟩ := x
  obtain ⟨cc, as, r, p⟩ := r
  exact ⟨cc, a :: as, .list e c dd (by simpa using r), fun b hb => by
    rcases List.mem_cons.mp hb with rfl | hb
    · exact ha
    · exact p b hb⟩
theorem Rp.of_tuple {a : Addr} (x : IsTup h a vs.toArray) (r : RpAll O h vs ds) : Rp O h (.ref a) (.tuple ds) := by
  obtain ⟨o, e, c, n, dd⟩ := x
  obtain ⟨cc, as, r, p⟩ := r
  exact ⟨cc, as, .tuple e c dd (by simpa using r), p⟩
theorem RpAll.ints : ∀ {vs : List Value} {is : List Int}, RpAll O h vs (is.map .int) → RpAll O' h' vs (is.map .int)
  | [], [], _ => .nil
  | [], _ :: _, ⟨_, _, r, _⟩ => by cases r
  | _ :: _, [], ⟨_, _, r, _⟩ => by cases r
  | v :: vs, i :: is, r => by
    obtain ⟨t, rfl⟩ := Rp.int_inv (RpAll.head r)
    exact .cons (.int i t) (RpAll.ints (RpAll.tail r))
/-- an address that is no list of the reading may be changed -/
theorem reads_but {a : Addr} {oa : Obj} (ha : h.get? a = some oa) (hc : ∀ vs n, oa.data = .seq vs n → oa.cls ≠ .type "tuple") (k : ∀ b o, b ≠ a → h.get? b = some o → h'.get? b = some o) :
    (∀ (v : Value) (d : PyData) (as : List Addr), Reads h v d as → a ∉ as → Reads h' v d as) := by
  intro v d as r
  refine Reads.rec (motive_1 := fun v d as _ => a ∉ as → Reads h' v d as) (motive_2 := fun vs ds as _ => a ∉ as → ReadsAll h' vs ds as)
    (fun _ => .none) (fun b _ => .bool b) (fun i t _ => .int i t) (fun x t _ => .str x t) ?_ ?_ ?_ (fun _ => .nil) ?_ r
  · intro b o vs n xs as h1 h2 h3 _ ih hm
    exact .list (k b o (fun q => hm (by rw [q]; exact List.mem_cons_self)) h1) h2 h3 (ih fun q => hm (List.mem_cons_of_mem _ q))
  · intro b o vs n xs as h1 h2 h3 _ ih hm
    exact .tuple (k b o (fun q => by subst q; rw [ha] at h1; cases h1; exact hc _ _ h3 h2) h1) h2 h3 (ih hm)
  · intro b o es n kvs as bs h1 h2 h3 _ _ ih1 ih2 hm
    exact .dict (k b o (fun q => hm (by rw [q]; simp)) h1) h2 h3 (ih1 fun q => hm (by simp [q])) (ih2 fun q => hm (by simp [q]))
  · intro v vs d ds as bs _ _ ih1 ih2 hm
    exact .cons (ih1 fun q => hm (List.mem_append.mpr (.inl q))) (ih2 fun q => hm (List.mem_append.mpr (.inr q)))
theorem readsAll_but {a : Addr} {oa : Obj} (ha : h.get? a = some oa) (hc : ∀ vs n, oa.data = .seq vs n → oa.cls ≠ .type "tuple") (k : ∀ b o, b ≠ a → h.get? b = some o → h'.get? b = some o) :
    ∀ (vs : List Value) (ds : List PyData) (as : List Addr), ReadsAll h vs ds as → a ∉ as → ReadsAll h' vs ds as
  | _, _, _, .nil, _ => .nil
  | _, _, _, .cons r1 r2, hm => .cons (reads_but ha hc k _ _ _ r1 fun q => hm (List.mem_append.mpr (.inl q))) (readsAll_but ha hc k _ _ _ r2 fun q => hm (List.mem_append.mpr (.inr q)))
mutual
theorem reads_seq : ∀ (d : PyData) {v : Value} {as : List Addr}, d.canLay0 = true → Reads h v d as → ∀ b ∈ as, ∃ o vs n, h.get? b = some o ∧ o.data = .seq vs n
  | .none, _, _, _, r, b, hb => by cases r; cases hb
  | .bool _, _, _, _, r, b, hb => by cases r; cases hb
  | .int _, _, _, _, r, b, hb => by cases r; cases hb
  | .str _, _, _, _, r, b, hb => by cases r; cases hb
  | .list xs, _, _, c, r, b, hb => by
    cases r with
    | list h1 h2 h3 h4 =>
      rcases List.mem_cons.mp hb with rfl | hb
      · exact ⟨_, _, _, h1, h3⟩
      · exact readsAll_seq xs c h4 b hb
  | .tuple xs, _, _, c, r, b, hb => by
    cases r with
    | tuple h1 h2 h3 h4 => exact readsAll_seq xs c h4 b hb
  | .dict _, _, _, c, _, _, _ => by cases c
theorem readsAll_seq : ∀ (ds : List PyData) {vs : List Value} {as : List Addr}, PyData.canLayAll0 ds = true → ReadsAll h vs ds as → ∀ b ∈ as, ∃ o vs n, h.get? b = some o ∧ o.data = .seq vs n
  | [], _, _, _, r, b, hb => by cases r; cases hb
  | d :: ds, _, _, c, r, b, hb => by
    cases r with
    | cons r1 r2 =>
      rcases List.mem_append.mp hb with hb | hb
      · exact reads_seq d (canAll_cons.mp c).1 r1 b hb
      · exact readsAll_seq ds (canAll_cons.mp c).2 r2 b hb
end
/-- a change at an object that is no sequence -/
theorem Rp.butNs {a : Addr} {oa : Obj} (r : Rp O h v d) (ha : h.get? a = some oa) (hn : ∀ vs n, oa.data ≠ .seq vs n) (k : ∀ b o, b ≠ a → h.get? b = some o → h'.get? b = some o) : Rp O h' v d := by
  obtain ⟨c, as, r, p⟩ := r
  refine ⟨c, as, reads_but ha (fun vs n e => absurd e (hn vs n)) k _ _ _ r fun q => ?_, p⟩
  obtain ⟨o, vs, n, e, dd⟩ := reads_seq d c r a q
  rw [ha] at e; cases e
  exact hn _ _ dd
theorem RpAll.butNs {a : Addr} {oa : Obj} (r : RpAll O h vs ds) (ha : h.get? a = some oa) (hn : ∀ vs n, oa.data ≠ .seq vs n) (k : ∀ b o, b ≠ a → h.get? b = some o → h'.get? b = some o) : RpAll O h' vs ds := by
  obtain ⟨c, as, r, p⟩ := r
  refine ⟨c, as, readsAll_but ha (fun vs n e => absurd e (hn vs n)) k _ _ _ r fun q => ?_, p⟩
  obtain ⟨o, vs, n, e, dd⟩ := readsAll_seq ds c r a q
  rw [ha] at e; cases e
  exact hn _ _ dd
/-- a change at an owned list -/
theorem Rp.butOwn {a : Addr} {oa : Obj} (r : Rp O h v d) (ha : h.get? a = some oa) (hc : oa.cls = .type "list") (hO : O a) (k : ∀ b o, b ≠ a → h.get? b = some o → h'.get? b = some o) : Rp O h' v d := by
  obtain ⟨c, as, r, p⟩ := r
  exact ⟨c, as, reads_but ha (fun _ _ _ => by rw [hc]; decide) k _ _ _ r fun q => p a q hO, p⟩
theorem RpAll.butOwn {a : Addr} {oa : Obj} (r : RpAll O h vs ds) (ha : h.get? a = some oa) (hc : oa.cls = .type "list") (hO : O a) (k : ∀ b o, b ≠ a → h.get? b = some o → h'.get? b = some o) : RpAll O h' vs ds := by
  obtain ⟨c, as, r, p⟩ := r
  exact ⟨c, as, readsAll_but ha (fun _ _ _ => by rw [hc]; decide) k _ _ _ r fun q => p a q hO, p⟩
theorem Rp.reads (r : Rp O h v d) : d.canLay0 = true ∧ ∃ as, Reads h v d as := let ⟨c, as, r, _⟩ := r; ⟨c, as, r⟩
end

/-! ## stores -/
inductive Slot where
  | sh (d : PyData)
  | own (pl : Bool) (ds : List PyData)
abbrev Store := List (Str × Slot)

structure Wd where
  prog : Program
  w : World
  base : Heap

/-- the name's value -/
def Nm (env : Env) (m : Str → Option Value) (h : Heap) (x : Str) (v : Value) : Prop :=
  (env.kindOf x = some .local ∧ m x = some v) ∨ (env.kindOf x = some .cell ∧ ∃ c, env.cells.lookup x = some c ∧ h.IsCell c (some v))
theorem Nm.keeps {env : Env} {m : Str → Option Value} {h h' : Heap} {x : Str} {v : Value} (n : Nm env m h x v) (k : Kp h h') : Nm env m h' x v :=
  n.imp id fun ⟨a, c, b, d⟩ => ⟨a, c, b, d.keeps k⟩

structure Rd (W : Wd) (env : Env) (ρ : Store) (O : Addr → Prop) (m : Str → Option Value) (h : Heap) : Prop where
  fn : env.scope.kind = .function
  gl : env.globals = mainGlobals
  bi : env.builtins = builtinsNs
  ns : h.Ns env.locals m
  at_ : ∀ x d, ρ.lookup x = some (.sh d) → ∃ v, Nm env m h x v ∧ Rp O h v d
  al : ∀ a, O a → ∃ o, h.get? a = some o
  gr : Kp W.base h
section
variable {W : Wd} {A : Around} {env : Env} {ρ : Store} {O : Addr → Prop} {m : Str → Option Value} {h h' : Heap}
theorem Rd.keeps (R : Rd W env ρ O m h) (k : Kp h h') : Rd W env ρ O m h' where
  fn := R.fn
  gl := R.gl
  bi := R.bi
  ns := R.ns.keeps k
  at_ := fun x d e => let ⟨v, n, r⟩ := R.at_ x d e; ⟨v, n.keeps k, r.keeps k⟩
  al := fun a q => let ⟨o, e⟩ := R.al a q; ⟨o, k a o e⟩
  gr := R.gr.trans k
theorem Rd.fresh (R : Rd W env ρ O m h) {a : Addr} (e : h.get? a = none) : ¬ O a := fun q => by
  obtain ⟨o, e'⟩ := R.al a q
  rw [e] at e'; cases e'
end

/-- room for n more frames -/
structure Rm (n : Nat) (A : Around) : Prop where
  hh : A.handled = none
  dp : A.depth + n < recursionLimit
  un : A.units + 8 * n + 100 < cLine
theorem Rm.le {n k : Nat} {A : Around} (x : Rm n A) (hk : k ≤ n) : Rm k A := ⟨x.hh, by have := x.dp; omega, by have := x.un; omega⟩
theorem Rm.deeper {n : Nat} {A : Around} {env : Env} (x : Rm (n + 1) A) : Rm n (A.deeper env) :=
  ⟨by have := x.hh; exact this, by have := x.dp; show A.depth + 1 + n < _; omega, by have := x.un; show A.units + 3 + 8 * n + 100 < _; omega⟩

/-! ## expressions -/
def EV (W : Wd) (A : Around) (env : Env) (ρ : Store) (e : Expr) (P : PyData → Prop) : Prop :=
  ∀ (s : Shared) (O : Addr → Prop) (m : Str → Option Value), Rd W env ρ O m s.heap → ∀ (Q E : Value → Shared → Prop),
    (∀ v d s', Mv s s' → Rp O s'.heap v d → P d → Q v s') → wpAny (model W.prog W.w) A (eval e env) Q E s
/-- a fresh list -/
def EVo (W : Wd) (A : Around) (env : Env) (ρ : Store) (e : Expr) (P : List PyData → Prop) : Prop :=
  ∀ (s : Shared) (O : Addr → Prop) (m : Str → Option Value), Rd W env ρ O m s.heap → ∀ (Q E : Value → Shared → Prop),
    (∀ D vs ds s', s.heap.get? D = none → Mv s s' → s'.heap.PlainList D vs.toArray → RpAll (fun a => O a ∨ a = D) s'.heap vs ds → P ds → Q (.ref D) s') → wpAny (model W.prog W.w) A (eval e env) Q E s
/-- several, in order -/
def EVs (W : Wd) (A : Around) (env : Env) (ρ : Store) (es : List Expr) (P : List PyData → Prop) : Prop :=
  ∀ (s : Shared) (O : Addr → Prop) (m : Str → Option Value), Rd W env ρ O m s.heap → ∀ (pos : Pos) (Q : List Value → Shared → Prop) (E : Value → Shared → Prop),
    (∀ vs ds s', Mv s s' → RpAll O s'.heap vs ds → P ds → Q vs s') → wpAny (model W.prog W.w) A (spliced (backTo pos (starEach es env))) Q E s
/-- a test -/
def TV (W : Wd) (A : Around) (env : Env) (ρ : Store) (e : Expr) (P : Bool → Prop) : Prop :=
  ∀ (s : Shared) (O : Addr → Prop) (m : Str → Option Value), Rd W env ρ O m s.heap → ∀ (Q : Bool → Shared → Prop) (E : Value → Shared → Prop),
    (∀ b s', Mv s s' → P b → Q b s') → wpAny (model W.prog W.w) A (isTrue e env (eval e env)) Q E s
/-- a binary operation on data -/
def BO (W : Wd) (A : Around) (op : Operator) (a b : PyData) (P : PyData → Prop) : Prop :=
  ∀ (s : Shared) (O : Addr → Prop) (va vb : Value), Rp O s.heap va a → Rp O s.heap vb b → (∀ a, O a → ∃ o, s.heap.get? a = some o) → ∀ (Q E : Value → Shared → Prop),
    (∀ v d s', Mv s s' → Rp O s'.heap v d → P d → Q v s') → wpAny (model W.prog W.w) A (binaryOp op va vb) Q E s
/-- a comparison -/
def CO (W : Wd) (A : Around) (op : CmpOp) (a b : PyData) (P : Bool → Prop) : Prop :=
  ∀ (s : Shared) (O : Addr → Prop) (va vb : Value), Rp O s.heap va a → Rp O s.heap vb b → ∀ (Q E : Value → Shared → Prop),
    (∀ c, P c → Q (.bool c) s) → wpAny (model W.prog W.w) A (compareOp op va vb) Q E s

section
variable {W : Wd} {A : Around} {env : Env} {ρ : Store} {P P' : PyData → Prop}
theorem EV.mono {e : Expr} (x : EV W A env ρ e P) (k : ∀ d, P d → P' d) : EV W A env ρ e P' :=
  fun s O m R Q E f => x s O m R Q E fun v d s' a b c => f v d s' a b (k d c)
theorem EVo.mono {e : Expr} {P P' : List PyData → Prop} (x : EVo W A env ρ e P) (k : ∀ d, P d → P' d) : EVo W A env ρ e P' :=
  fun s O m R Q E f => x s O m R Q E fun D vs ds s' a b c d p => f D vs ds s' a b c d (k ds p)
theorem EVs.mono {es : List Expr} {P P' : List PyData → Prop} (x : EVs W A env ρ es P) (k : ∀ d, P d → P' d) : EVs W A env ρ es P' :=
  fun s O m R pos Q E f => x s O m R pos Q E fun v d s' a b c => f v d s' a b (k d c)
theorem TV.mono {e : Expr} {P P' : Bool → Prop} (x : TV W A env ρ e P) (k : ∀ d, P d → P' d) : TV W A env ρ e P' :=
  fun s O m R Q E f => x s O m R Q E fun b s' a c => f b s' a (k b c)
theorem EV.of_own {e : Expr} (x : EVo W A env ρ e fun ds => P (.list ds)) : EV W A env ρ e P :=
  fun s O m R Q E f => x s O m R Q E fun D vs ds s' hD k hl r p =>
    f _ (.list ds) s' k (Rp.of_list hl.isList (r.weak fun a q => .inl q) (R.fresh hD)) p

theorem ev_int {i : Int} {k : Nat} {pos : Pos} (p : P (.int i)) : EV W A env ρ (.Constant (.int i) k pos) P :=
  fun s _ _ _ _ _ f => wpAny_Constant_int (f _ _ _ .tok (.int i _) p)
theorem ev_bool {b : Bool} {k : Nat} {pos : Pos} (p : P (.bool b)) : EV W A env ρ (.Constant (.bool b) k pos) P :=
  fun s _ _ _ _ _ f => wpAny_Constant_bool (f _ _ _ (.refl _) (.bool b) p)
theorem ev_none {k : Nat} {pos : Pos} (p : P .none) : EV W A env ρ (.Constant .none k pos) P :=
  fun s _ _ _ _ _ f => wpAny_Constant_none (f _ _ _ (.refl _) .none p)
theorem ev_name {x : Str} {pos : Pos} {d : PyData} (e : ρ.lookup x = some (.sh d)) (p : P d) (hd : (x == ("__debug__" : Str)) = false := by decide) : EV W A env ρ (.Name x pos) P := by
  intro s O m R Q E f
  obtain ⟨v, n, r⟩ := R.at_ x d e
  have q := f v d s (.refl _) r p
  rcases n with ⟨a, b⟩ | ⟨a, c, b, g⟩
  · exact wpAny_Name (wpAny_loadName_local R.fn a R.ns b q) hd
  · exact wpAny_Name (wpAny_loadName_cell R.fn a b g q) hd
theorem ev_bin {l r : Expr} {op : Operator} {pos : Pos} (x : EV W A env ρ l fun a => EV W A env ρ r fun b => BO W A op a b P) : EV W A env ρ (.BinOp l op r pos) P := by
  intro s O m R Q E f
  refine wpAny_BinOp (x s O m R _ _ fun va a s₁ k₁ ra y => ?_)
  refine y _ O m (R.keeps k₁.kp) _ _ fun vb b s₂ k₂ rb z => ?_
  exact z _ O va vb (ra.keeps k₂.kp) rb (fun a q => ((R.keeps k₁.kp).keeps k₂.kp).al a q) _ _ fun v d s₃ k₃ rv p => f v d s₃ ((k₁.trans k₂).trans k₃) rv p
end
end Mine

set_option maxRecDepth 100000
set_option autoImplicit false
set_option linter.unusedVariables false
namespace Mine
open PySem PySem.Calls PyProof.Rows PySem.Spec
section
variable {W : Wd} {A : Around} {env : Env} {ρ : Store} {P P' : PyData → Prop}

/-! ### operations on ints -/
theorem bo_add {i j : Int} (p : P (.int (i + j))) : BO W A .Add (.int i) (.int j) P := by
  intro s O va vb ra rb al Q E f
  obtain ⟨t, rfl⟩ := ra.int_inv
  obtain ⟨u, rfl⟩ := rb.int_inv
  exact add_int (f _ _ _ .tok (.int _ _) p)
theorem bo_sub {i j : Int} (p : P (.int (i - j))) : BO W A .Sub (.int i) (.int j) P := by
  intro s O va vb ra rb al Q E f
  obtain ⟨t, rfl⟩ := ra.int_inv
  obtain ⟨u, rfl⟩ := rb.int_inv
  exact sub_int (f _ _ _ .tok (.int _ _) p)
theorem bo_mul {i j : Int} (hm : IntMulOk i j) (p : P (.int (i * j))) : BO W A .Mult (.int i) (.int j) P := by
  intro s O va vb ra rb al Q E f
  obtain ⟨t, rfl⟩ := ra.int_inv
  obtain ⟨u, rfl⟩ := rb.int_inv
  exact mul_int (f _ _ _ .tok (.int _ _) p) hm
theorem bo_mod {i j : Int} (hj : j ≠ 0) (p : P (.int (i.fmod j))) : BO W A .Mod (.int i) (.int j) P := by
  intro s O va vb ra rb al Q E f
  obtain ⟨t, rfl⟩ := ra.int_inv
  obtain ⟨u, rfl⟩ := rb.int_inv
  exact mod_int hj (f _ _ _ .tok (.int _ _) p)
theorem bo_div {i j : Int} (hj : j ≠ 0) (hs : j.natAbs.log2 < 9000) (p : P (.int (i.fdiv j))) : BO W A .FloorDiv (.int i) (.int j) P := by
  intro s O va vb ra rb al Q E f
  obtain ⟨t, rfl⟩ := ra.int_inv
  obtain ⟨u, rfl⟩ := rb.int_inv
  exact floordiv_int hj (f _ _ _ .tok (.int _ _) p) (.inl (PyProof.noPylong_of_log2 hs))
theorem bo_pow {i j : Int} (hj : 0 ≤ j) (hj2 : j ≤ 1000000) (hi : i.natAbs < 2 ^ 64) (p : P (.int (i ^ j.toNat))) : BO W A .Pow (.int i) (.int j) P := by
  intro s O va vb ra rb al Q E f
  obtain ⟨t, rfl⟩ := ra.int_inv
  obtain ⟨u, rfl⟩ := rb.int_inv
  exact pow_int_small hj hj2 hi (f _ _ _ .tok (.int _ _) p)
theorem ev_neg {x : Expr} {pos : Pos} (h : EV W A env ρ x fun a => match a with | .int i => P (.int (-i)) | _ => False) : EV W A env ρ (.UnaryOp .USub x pos) P := by
  intro s O m R Q E f
  refine wpAny_UnaryOp (h s O m R _ _ fun va a s₁ k₁ ra y => ?_)
  cases a <;> try exact y.elim
  obtain ⟨t, rfl⟩ := ra.int_inv
  exact neg_int (f _ _ _ (k₁.trans .tok) (.int _ _) y)
/-! ### comparisons -/
theorem co_lt {i j : Int} {P : Bool → Prop} (p : P (decide (i < j))) : CO W A .Lt (.int i) (.int j) P := by
  intro s O va vb ra rb Q E f
  obtain ⟨t, rfl⟩ := ra.int_inv
  obtain ⟨u, rfl⟩ := rb.int_inv
  exact lt_int (f _ p)
theorem co_gt {i j : Int} {P : Bool → Prop} (p : P (decide (j < i))) : CO W A .Gt (.int i) (.int j) P := by
  intro s O va vb ra rb Q E f
  obtain ⟨t, rfl⟩ := ra.int_inv
  obtain ⟨u, rfl⟩ := rb.int_inv
  exact gt_int (f _ p)
theorem co_ge {i j : Int} {P : Bool → Prop} (p : P (decide (j ≤ i))) : CO W A .GtE (.int i) (.int j) P := by
  intro s O va vb ra rb Q E f
  obtain ⟨t, rfl⟩ := ra.int_inv
  obtain ⟨u, rfl⟩ := rb.int_inv
  exact ge_int (f _ p)
theorem co_eqI {i j : Int} {P : Bool → Prop} (p : P (i == j)) : CO W A .Eq (.int i) (.int j) P := by
  intro s O va vb ra rb Q E f
  obtain ⟨t, rfl⟩ := ra.int_inv
  obtain ⟨u, rfl⟩ := rb.int_inv
  exact eq_int (f _ p)
theorem co_neI {i j : Int} {P : Bool → Prop} (p : P (i != j)) : CO W A .NotEq (.int i) (.int j) P := by
  intro s O va vb ra rb Q E f
  obtain ⟨t, rfl⟩ := ra.int_inv
  obtain ⟨u, rfl⟩ := rb.int_inv
  exact ne_int (f _ p)
theorem co_eq {n : Nat} {a b : PyData} {P : Bool → Prop} (rm : Rm n A) (hd : min a.depth b.depth ≤ 64) (p : P (PyData.eqv a b)) : CO W A .Eq a b P := by
  intro s O va vb ra rb Q E f
  obtain ⟨ca, as, ra⟩ := ra.reads
  obtain ⟨cb, bs, rb⟩ := rb.reads
  exact SeqAt.compareEq_reads ra rb ca cb (by have := rm.un; omega) (f _ p)
theorem co_ne {n : Nat} {a b : PyData} {P : Bool → Prop} (rm : Rm n A) (hd : min a.depth b.depth ≤ 64) (p : P (!PyData.eqv a b)) : CO W A .NotEq a b P := by
  intro s O va vb ra rb Q E f
  obtain ⟨ca, as, ra⟩ := ra.reads
  obtain ⟨cb, bs, rb⟩ := rb.reads
  exact SeqAt.compareNe_reads ra rb ca cb (by have := rm.un; omega) (f _ p)
theorem co_in {n : Nat} {d : PyData} {xs : List PyData} {P : Bool → Prop} (rm : Rm n A) (hd : d.depth ≤ 64) (p : P (xs.any fun y => PyData.eqv y d)) : CO W A .In d (.list xs) P := by
  intro s O va vb ra rb Q E f
  obtain ⟨ca, as, ra⟩ := ra.reads
  obtain ⟨cb, bs, rb⟩ := rb.reads
  exact SeqAt.in_list_reads rb ra cb ca (by have := rm.un; omega) (f _ p)
theorem co_notIn {n : Nat} {d : PyData} {xs : List PyData} {P : Bool → Prop} (rm : Rm n A) (hd : d.depth ≤ 64) (p : P (!xs.any fun y => PyData.eqv y d)) : CO W A .NotIn d (.list xs) P := by
  intro s O va vb ra rb Q E f
  obtain ⟨ca, as, ra⟩ := ra.reads
  obtain ⟨cb, bs, rb⟩ := rb.reads
  exact SeqAt.notIn_list_reads rb ra cb ca (by have := rm.un; omega) (f _ p)
theorem ev_cmp {l r : Expr} {op : CmpOp} {pos : Pos} (x : EV W A env ρ l fun a => EV W A env ρ r fun b => CO W A op a b fun c => P (.bool c))
    (hm : behindInMarks op r = false := by with_unfolding_all rfl) : EV W A env ρ (.Compare l [op] [r] pos) P := by
  intro s O m R Q E f
  refine wpAny_Compare1 (x s O m R _ _ fun va a s₁ k₁ ra y => ?_) hm
  refine y _ O m (R.keeps k₁.kp) _ _ fun vb b s₂ k₂ rb z => ?_
  exact z _ O va vb (ra.keeps k₂.kp) rb _ _ fun c p => f _ _ s₂ (k₁.trans k₂) (.bool c) p
theorem tv_cmp {l r : Expr} {op : CmpOp} {pos : Pos} {P : Bool → Prop} (x : EV W A env ρ l fun a => EV W A env ρ r fun b => CO W A op a b P)
    (hm : behindInMarks op r = false := by with_unfolding_all rfl) : TV W A env ρ (.Compare l [op] [r] pos) P := by
  intro s O m R Q E f
  refine wpAny_isTrue_Compare1 (x s O m R _ _ fun va a s₁ k₁ ra y => ?_) hm
  refine y _ O m (R.keeps k₁.kp) _ _ fun vb b s₂ k₂ rb z => ?_
  exact z _ O va vb (ra.keeps k₂.kp) rb _ _ fun c p => wpAny_truthy_bool (f _ s₂ (k₁.trans k₂) p)
theorem tv_not {x : Expr} {pos : Pos} {P : Bool → Prop} (h : TV W A env ρ x fun b => P (!b)) : TV W A env ρ (.UnaryOp .Not x pos) P := by
  intro s O m R Q E f
  exact wpAny_isTrue_Not (h s O m R _ _ fun b s₁ k₁ p => f _ s₁ k₁ p)
theorem tv_and {x y : Expr} {pos : Pos} {P : Bool → Prop} (h : TV W A env ρ x fun b => if b then TV W A env ρ y P else P false) : TV W A env ρ (.BoolOp .And [x, y] pos) P := by
  intro s O m R Q E f
  refine wpAny_isTrue_BoolOp (wpAny_allTrue_And_cons (h s O m R _ _ fun b s₁ k₁ p => ?_))
  cases b with
  | false => exact f _ s₁ k₁ p
  | true =>
    refine wpAny_allTrue_And_cons (p _ O m (R.keeps k₁.kp) _ _ fun c s₂ k₂ p => ?_)
    cases c with
    | false => exact f _ s₂ (k₁.trans k₂) p
    | true => exact wpAny_allTrue_And_nil (f _ s₂ (k₁.trans k₂) p)
theorem tv_or {x y : Expr} {pos : Pos} {P : Bool → Prop} (h : TV W A env ρ x fun b => if b then P true else TV W A env ρ y P) : TV W A env ρ (.BoolOp .Or [x, y] pos) P := by
  intro s O m R Q E f
  refine wpAny_isTrue_BoolOp (wpAny_allTrue_Or_cons (h s O m R _ _ fun b s₁ k₁ p => ?_))
  cases b with
  | true => exact f _ s₁ k₁ p
  | false =>
    refine wpAny_allTrue_Or_cons (p _ O m (R.keeps k₁.kp) _ _ fun c s₂ k₂ p => ?_)
    cases c with
    | true => exact f _ s₂ (k₁.trans k₂) p
    | false => exact wpAny_allTrue_Or_nil (f _ s₂ (k₁.trans k₂) p)
/-- a value that is a bool -/
theorem tv_val {e : Expr} {P : Bool → Prop} (h : EV W A env ρ e fun a => match a with | .bool b => P b | _ => False)
    (he : ∀ whole, isTrue e env whole = (do let v ← whole; standAt e.pos; holding [v] (truthy v)) := by intro _; rfl) : TV W A env ρ e P := by
  intro s O m R Q E f
  refine wpAny_isTrue_value (h s O m R _ _ fun va a s₁ k₁ ra y => ?_) (he _)
  cases a <;> try exact y.elim
  rw [ra.bool_inv]
  exact wpAny_truthy_bool (f _ s₁ k₁ y)
/-! ### sequences of expressions -/
theorem evs_nil {P : List PyData → Prop} (p : P []) : EVs W A env ρ [] P := fun s _ _ _ _ _ _ f => wpAny_items_nil (f [] [] s (.refl _) .nil p)
theorem evs_cons {e : Expr} {es : List Expr} {P : List PyData → Prop} (h : EV W A env ρ e fun d => EVs W A env ρ es fun ds => P (d :: ds))
    (he : starEach (e :: es) env = (false, eval e env) :: starEach es env := by rfl) : EVs W A env ρ (e :: es) P := by
  intro s O m R pos Q E f
  refine wpAny_items_cons (h s O m R _ _ fun v d s₁ k₁ r y => ?_) he
  exact y _ O m (R.keeps k₁.kp) pos _ _ fun vs ds s₂ k₂ rs p => f _ _ s₂ (k₁.trans k₂) (.cons (r.keeps k₂.kp) rs) p
theorem ev_tuple {es : List Expr} {k : Nat} {pos : Pos} (hn : es.length ≤ 100) (h : EVs W A env ρ es fun ds => ds.length ≤ 100 ∧ P (.tuple ds)) : EV W A env ρ (.Tuple es k pos) P := by
  intro s O m R Q E f
  refine wpAny_Tuple (h s O m R pos _ _ fun vs ds s₁ k₁ r p => ⟨?_, ?_⟩)
  · rw [r.length, sizeLine_eq]; have := p.1; omega
  · have k₂ := Kp.push s₁.heap { cls := .type "tuple", data := .seq vs.toArray }
    exact f _ _ _ (k₁.trans .new) (Rp.of_tuple ⟨_, Heap.get?_push_size _ rfl, rfl, _, rfl⟩ (r.keeps k₂)) p.2
theorem evo_list {es : List Expr} {pos : Pos} {P : List PyData → Prop} (h : EVs W A env ρ es fun ds => ds.length ≤ 100 ∧ P ds) : EVo W A env ρ (.List es pos) P := by
  intro s O m R Q E f
  refine wpAny_List (h s O m R pos _ _ fun vs ds s₁ k₁ r p => ⟨?_, ?_⟩)
  · rw [r.length, sizeLine_eq]; have := p.1; omega
  · have k₂ := Kp.push s₁.heap { cls := .type "list", data := .seq vs.toArray }
    refine f s₁.heap.objs.size vs ds _ (k₁.kp.none (get_none_of_size _)) (k₁.trans .new) ⟨_, Heap.get?_push_size _ rfl⟩ ?_ p.2
    obtain ⟨c, as, r, a⟩ := r
    refine ⟨c, as, ReadsAll.keeps k₂ r, fun b hb q => ?_⟩
    rcases q with q | q
    · exact a b hb q
    · subst q
      obtain ⟨o, _, _, e, _⟩ := readsAll_seq ds c r _ hb
      rw [get_none_of_size] at e; cases e
/-! ### items -/
theorem seqIndex_nat {k : Int} {n : Nat} (h0 : 0 ≤ k) (h1 : k.toNat < n) : seqIndex? k n = some k.toNat := by
  unfold seqIndex?
  have e : (if k < 0 then k + (n : Int) else k) = k := if_neg (by omega)
  simp only [e]
  rw [if_pos]
  simp only [Bool.and_eq_true, decide_eq_true_eq]
  omega
def ItemOf (a b : PyData) (P : PyData → Prop) : Prop := match a, b with
  | .list ds, .int k => 0 ≤ k ∧ k < 2 ^ 63 ∧ ∃ d, ds[k.toNat]? = some d ∧ P d
  | .tuple ds, .int k => 0 ≤ k ∧ k < 2 ^ 63 ∧ ∃ d, ds[k.toNat]? = some d ∧ P d
  | _, _ => False
theorem ev_sub {x i : Expr} {pos : Pos} (h : EV W A env ρ x fun a => EV W A env ρ i fun b => ItemOf a b P)
    (hs : ∀ (a : Addr) (k : Int) (u : Tok), subscripted i false (.ref a) (.int k u) = operate [.ref a, .int k u] (getItem (.ref a) (.int k u)) := by intros; with_unfolding_all rfl) : EV W A env ρ (.Subscript x i pos) P := by
  intro s O m R Q E f
  refine Subscript_ (h s O m R _ _ fun va a s₁ k₁ ra y => ?_)
  refine y _ O m (R.keeps k₁.kp) _ _ fun vb b s₂ k₂ rb z => ?_
  cases a <;> cases b <;> try exact z.elim
  · obtain ⟨z1, z2, d, z3, p⟩ := z
    obtain ⟨u, rfl⟩ := rb.int_inv
    obtain ⟨a, vs, rfl, hl, rs, _⟩ := (ra.keeps k₂.kp).list_inv
    obtain ⟨v, hv, rv⟩ := rs.get z3
    exact tail_any hl.typeIs slot_list_getitem.lookup (wpAny_getItem_list hl z1 z2 (by simpa using hv) (f v d s₂ (k₁.trans k₂) rv p)) (hs _ _ _)
  · obtain ⟨z1, z2, d, z3, p⟩ := z
    obtain ⟨u, rfl⟩ := rb.int_inv
    obtain ⟨a, vs, rfl, hl, rs⟩ := (ra.keeps k₂.kp).tuple_inv
    obtain ⟨v, hv, rv⟩ := rs.get z3
    rename_i xs k
    have hlt : k.toNat < vs.length := by
      have := List.getElem?_eq_some_iff.mp hv
      exact this.1
    exact item_tupleT (j := k.toNat) hl (by omega) z2 (seqIndex_nat z1 hlt) hv (f v d s₂ (k₁.trans k₂) rv p) (hs _ _ _)
end
end Mine

set_option maxRecDepth 100000
set_option autoImplicit false
set_option linter.unusedVariables false
namespace Mine
open PySem PySem.Calls PyProof.Rows PySem.Spec
theorem RpAll.addNew {O : Addr → Prop} {h h' : Heap} {vs : List Value} {ds : List PyData} {D : Addr} (r : RpAll O h vs ds) (e : h.get? D = none) (k : Kp h h') : RpAll (fun a => O a ∨ a = D) h' vs ds := by
  obtain ⟨c, as, r, a⟩ := r
  refine ⟨c, as, ReadsAll.keeps k r, fun b hb q => ?_⟩
  rcases q with q | q
  · exact a b hb q
  · subst q
    obtain ⟨o, _, _, e', _⟩ := readsAll_seq ds c r _ hb
    rw [e] at e'; cases e'
theorem Rp.addNew {O : Addr → Prop} {h h' : Heap} {v : Value} {d : PyData} {D : Addr} (r : Rp O h v d) (e : h.get? D = .none) (k : Kp h h') : Rp (fun a => O a ∨ a = D) h' v d := by
  obtain ⟨c, as, r, a⟩ := r
  refine ⟨c, as, Reads.keeps k r, fun b hb q => ?_⟩
  rcases q with q | q
  · exact a b hb q
  · subst q
    obtain ⟨o, _, _, e', _⟩ := reads_seq d c r _ hb
    rw [e] at e'; cases e'

section
variable {W : Wd} {A : Around} {env : Env} {ρ : Store} {P P' : PyData → Prop}
/-! ### slices, sums, products of lists -/
theorem evo_slice {x : Expr} {p pos : Pos} {P : List PyData → Prop} (h : EV W A env ρ x fun a => match a with | .list ds => ds.length ≤ 2 ^ 20 ∧ P ds | _ => False)
    (hs : ∀ (a b : Addr), subscripted (.Slice none none none p) false (.ref a) (.ref b) = operate [.ref b, .ref a] (getItem (.ref a) (.ref b)) := by intros; with_unfolding_all rfl) :
    EVo W A env ρ (.Subscript x (.Slice none none none p) pos) P := by
  intro s O m R Q E f
  refine Subscript_ (h s O m R _ _ fun va a s₁ k₁ ra y => ?_)
  cases a <;> try exact y.elim
  rename_i ds
  obtain ⟨a, vs, rfl, hl, rs, _⟩ := ra.list_inv
  refine wpAny_Slice ?_
  rw [evalPart_none]
  refine wpAny_pure (wpAny_pure (wpAny_pure ?_))
  refine tail_any (T := "list") (hl.push _).typeIs slot_list_getitem.lookup (wpAny_getItem_list_slice (hl.push _) (Heap.IsSliceOf.new ..) .none .none .none (by simp) ?_ (by rw [sizeLine_eq]; have := y.1; rw [List.size_toArray, rs.length]; omega)) (hs _ _)
  have k₂ := Kp.push s₁.heap { cls := .type "slice", data := .fields #[.none, .none, .none] }
  have k₃ := Kp.push (s₁.heap.push { cls := .type "slice", data := .fields #[.none, .none, .none] }) { cls := .type "list", data := .seq (slicePick vs.toArray none none none) }
  refine f _ vs ds _ ((k₁.kp.trans k₂).none (get_none_of_size _)) (k₁.trans ⟨k₂.trans k₃, rfl, id⟩) ⟨0, ?_⟩ ((rs.keeps k₂).addNew (get_none_of_size _) k₃) y.2
  rw [slicePick_all]
  exact Heap.get?_push_size _ rfl
theorem evo_sliceFrom {x lo : Expr} {p pos : Pos} {P : List PyData → Prop} (h : EV W A env ρ x fun a => EV W A env ρ lo fun b => match a, b with | .list ds, .int k => ds.length ≤ 2 ^ 20 ∧ 0 ≤ k ∧ k ≤ ds.length ∧ P (ds.drop k.toNat) | _, _ => False)
    (hs : ∀ (a b : Addr), subscripted (.Slice (some lo) none none p) false (.ref a) (.ref b) = operate [.ref b, .ref a] (getItem (.ref a) (.ref b)) := by intros; with_unfolding_all rfl) :
    EVo W A env ρ (.Subscript x (.Slice (some lo) none none p) pos) P := by
  intro s O m R Q E f
  refine Subscript_ (h s O m R _ _ fun va a s₁ k₁ ra y => ?_)
  refine wpAny_Slice ?_
  rw [evalPart_none, evalPart_some]
  refine y _ O m (R.keeps k₁.kp) _ _ fun vb b s₂ k₂ rb z => ?_
  clear y
  refine wpAny_pure (wpAny_pure ?_)
  cases a <;> cases b <;> try exact z.elim
  rename_i ds k
  obtain ⟨y1, y2, y3, y4⟩ := z
  obtain ⟨u, rfl⟩ := rb.int_inv
  obtain ⟨a, vs, rfl, hl, rs, _⟩ := (ra.keeps k₂.kp).list_inv
  refine tail_any (T := "list") (hl.push _).typeIs slot_list_getitem.lookup (wpAny_getItem_list_slice (hl.push _) (Heap.IsSliceOf.new ..) (.int _ _) .none .none (by simp) ?_ (by rw [sizeLine_eq]; rw [List.size_toArray, rs.length]; omega)) (hs _ _)
  have k₃ := Kp.push s₂.heap { cls := .type "slice", data := .fields #[.int k u, .none, .none] }
  have k₄ := Kp.push (s₂.heap.push { cls := .type "slice", data := .fields #[.int k u, .none, .none] }) { cls := .type "list", data := .seq (slicePick vs.toArray (some k) none none) }
  refine f _ (vs.drop k.toNat) (ds.drop k.toNat) _ (((k₁.trans k₂).kp.trans k₃).none (get_none_of_size _)) ((k₁.trans k₂).trans ⟨k₃.trans k₄, rfl, id⟩) ⟨0, ?_⟩ (((rs.drop k.toNat).keeps k₃).addNew (get_none_of_size _) k₄) y4
  have e2 : slicePick vs.toArray (some k) none none = (vs.drop k.toNat).toArray := by
    clear f k₄ k₃ rb y4
    obtain ⟨j, rfl⟩ := Int.eq_ofNat_of_zero_le y2
    have e3 := slicePick_from vs.toArray j (by rw [List.size_toArray, rs.length]; omega)
    simpa using e3
  rw [e2]
  exact Heap.get?_push_size _ rfl
theorem bo_addL {xs ys : List PyData} (hn : xs.length + ys.length ≤ 2 ^ 20) (p : P (.list (xs ++ ys))) : BO W A .Add (.list xs) (.list ys) P := by
  intro s O va vb ra rb al Q E f
  obtain ⟨a, vs, rfl, hl, rs, _⟩ := ra.list_inv
  obtain ⟨b, ws, rfl, hb, rt, _⟩ := rb.list_inv
  obtain ⟨⟨cls, dd, data, sl⟩, ho, hc, n, hd⟩ := id hl
  obtain ⟨⟨cls2, dd2, data2, sl2⟩, ho2, hc2, n2, hd2⟩ := id hb
  simp only at hc hd hc2 hd2
  subst hc hd hc2 hd2
  have hsz : vs.length + ws.length ≤ sizeLine := by rw [rs.length, rt.length, sizeLine_eq]; omega
  refine concat_meets ⟨_, ho, rfl⟩ ⟨_, ho2, rfl⟩ noFill_list_add seq_list_add PySem.F.slot_list_add PySem.F.entry_list_add (PySem.F.args_list_add_2 _ _) (list_addW a b vs.toArray ws.toArray n n2 dd dd2 sl sl2 (by simpa using hsz)) ⟨ho, ho2, ?_⟩
  have e : vs.toArray ++ ws.toArray = (vs ++ ws).toArray := by simp
  rw [e]
  have k₂ := Kp.push s.heap { cls := .type "list", data := .seq (vs ++ ws).toArray }
  exact f _ _ _ .new (Rp.of_list ⟨_, Heap.get?_push_size _ rfl, rfl, _, rfl⟩ ((rs.append rt).keeps k₂) fun q => by
    obtain ⟨o, e⟩ := al _ q
    rw [get_none_of_size] at e; cases e) p
end
end Mine

set_option maxRecDepth 100000
set_option autoImplicit false
set_option linter.unusedVariables false
namespace Mine
open PySem PySem.Calls PyProof.Rows PySem.Spec
/-! ### names of the module and of the builtins -/
def Wd.Gl (W : Wd) (x : Str) (v : Value) : Prop :=
  (∃ mg, W.base.Ns mainGlobals mg ∧ mg x = some v) ∨ (∃ mg mb, W.base.Ns mainGlobals mg ∧ mg x = none ∧ W.base.Ns builtinsNs mb ∧ mb x = some v)
structure Wd.Fun (W : Wd) (f : Addr) (fd : FuncData) : Prop where
  at_ : ∃ o, W.base.get? f = some o ∧ o.data = .func fd
  lim : W.base.NoLimit
  cd : W.base.CodeRec fd.code fd.qualname
section
variable {W : Wd} {A : Around} {env : Env} {ρ : Store} {P P' : PyData → Prop}
theorem gname {x : Str} {v : Value} {O : Addr → Prop} {m : Str → Option Value} {s : Shared} {pos : Pos} {Q E : Value → Shared → Prop} (R : Rd W env ρ O m s.heap) (g : W.Gl x v) (hx : env.kindOf x = some .globalImplicit)
    (q : Q v s) (hd : (x == ("__debug__" : Str)) = false) : wpAny (model W.prog W.w) A (eval (.Name x pos) env) Q E s := by
  refine Name_function_global R.fn hx ?_ hd
  rcases g with ⟨mg, g1, g2⟩ | ⟨mg, mb, g1, g2, g3, g4⟩
  · exact loadGlobal_global (by rw [R.gl]; exact g1.keeps R.gr) g2 q
  · exact loadGlobal_builtin (by rw [R.gl]; exact g1.keeps R.gr) g2 (by rw [R.bi]; exact g3.keeps R.gr) g4 q

/-- a call of a def, by its contract -/
def FN (W : Wd) (n : Nat) (f : Addr) (ds : List PyData) (P : PyData → Prop) : Prop :=
  ∀ (A : Around) (s : Shared) (O : Addr → Prop) (vs : List Value), Rm n A → Kp W.base s.heap → (∀ a, O a → ∃ o, s.heap.get? a = some o) → RpAll O s.heap vs ds → ∀ (Q E : Value → Shared → Prop),
    (∀ v d s', Mv s s' → Rp O s'.heap v d → P d → Q v s') → wpAny (model W.prog W.w) A (call (.ref f) vs) Q E s
def FNo (W : Wd) (n : Nat) (f : Addr) (ds : List PyData) (P : List PyData → Prop) : Prop :=
  ∀ (A : Around) (s : Shared) (O : Addr → Prop) (vs : List Value), Rm n A → Kp W.base s.heap → (∀ a, O a → ∃ o, s.heap.get? a = some o) → RpAll O s.heap vs ds → ∀ (Q E : Value → Shared → Prop),
    (∀ D vs ds s', s.heap.get? D = none → Mv s s' → s'.heap.PlainList D vs.toArray → RpAll (fun a => O a ∨ a = D) s'.heap vs ds → P ds → Q (.ref D) s') → wpAny (model W.prog W.w) A (call (.ref f) vs) Q E s
theorem FN.mono {n : Nat} {f : Addr} {ds : List PyData} (x : FN W n f ds P) (k : ∀ d, P d → P' d) : FN W n f ds P' :=
  fun A s O vs a b c d Q E q => x A s O vs a b c d Q E fun v d s' a b p => q v d s' a b (k d p)
theorem FN.up {n m : Nat} {f : Addr} {ds : List PyData} (x : FN W n f ds P) (k : n ≤ m) : FN W m f ds P :=
  fun A s O vs a b c d Q E q => x A s O vs (a.le k) b c d Q E q
theorem FNo.up {n m : Nat} {f : Addr} {ds : List PyData} {P : List PyData → Prop} (x : FNo W n f ds P) (k : n ≤ m) : FNo W m f ds P :=
  fun A s O vs a b c d Q E q => x A s O vs (a.le k) b c d Q E q
theorem FN.of_own {n : Nat} {f : Addr} {ds : List PyData} (x : FNo W n f ds fun ds => P (.list ds)) : FN W n f ds P :=
  fun A s O vs a b c d Q E q => x A s O vs a b c d Q E fun D vs ds s' hD k hl r p =>
    q _ (.list ds) s' k (Rp.of_list hl.isList (r.weak fun a q => .inl q) fun q => by
      obtain ⟨o, e⟩ := c _ q
      rw [hD] at e; cases e) p
theorem call_args {f : Addr} {fd : FuncData} {e : Expr} {es : List Expr} {pos : Pos} {s : Shared} {O : Addr → Prop} {m : Str → Option Value} {Q E : Value → Shared → Prop} {P : List PyData → Prop} (R : Rd W env ρ O m s.heap) (hf : W.Fun f fd)
    (h : EVs W A env ρ (e :: es) P)
    (hq : ∀ vs ds s', Mv s s' → RpAll O s'.heap vs ds → P ds → wpAny (model W.prog W.w) A (call (.ref f) vs) Q E s')
    (he : starEach (e :: es) env = (false, eval e env) :: starEach es env) :
    wpAny (model W.prog W.w) A (callWith pos (.ref f) [] (backTo pos (starEach (e :: es) env)) []) Q E s := by
  obtain ⟨o, ho, hd⟩ := hf.at_
  have hh := h s O m R pos
  rw [he] at hh ⊢
  refine callWith_function (o := o) (fd := fd) (evalArgs_plain (hh _ _ fun vs ds s₁ k₁ r p => ?_))
  exact ⟨⟨(R.gr.trans k₁.kp) _ _ ho, hd⟩, hq vs ds s₁ k₁ r p⟩
theorem ev_call {n : Nat} {g : Str} {gp pos : Pos} {f : Addr} {fd : FuncData} {e : Expr} {es : List Expr} (rm : Rm n A) (hg : W.Gl g (.ref f)) (hf : W.Fun f fd) (h : EVs W A env ρ (e :: es) fun ds => FN W n f ds P)
    (hk : env.kindOf g = some .globalImplicit := by rfl) (he : starEach (e :: es) env = (false, eval e env) :: starEach es env := by rfl) (hd : (g == ("__debug__" : Str)) = false := by decide) :
    EV W A env ρ (.Call (.Name g gp) (e :: es) [] pos) P := by
  intro s O m R Q E q
  refine wpAny_Call_NameR (gname R hg hk (call_args R hf h (fun vs ds s₁ k₁ r p => ?_) he) hd)
  exact p A _ O vs rm (R.gr.trans k₁.kp) (fun a x => (R.keeps k₁.kp).al a x) r _ _ fun v d s₂ k₂ rv pv => q v d s₂ (k₁.trans k₂) rv pv
theorem evo_call {n : Nat} {g : Str} {gp pos : Pos} {f : Addr} {fd : FuncData} {e : Expr} {es : List Expr} {P : List PyData → Prop} (rm : Rm n A) (hg : W.Gl g (.ref f)) (hf : W.Fun f fd) (h : EVs W A env ρ (e :: es) fun ds => FNo W n f ds P)
    (hk : env.kindOf g = some .globalImplicit := by rfl) (he : starEach (e :: es) env = (false, eval e env) :: starEach es env := by rfl) (hd : (g == ("__debug__" : Str)) = false := by decide) :
    EVo W A env ρ (.Call (.Name g gp) (e :: es) [] pos) P := by
  intro s O m R Q E q
  refine wpAny_Call_NameR (gname R hg hk (call_args R hf h (fun vs ds s₁ k₁ r p => ?_) he) hd)
  exact p A _ O vs rm (R.gr.trans k₁.kp) (fun a x => (R.keeps k₁.kp).al a x) r _ _ fun D vs ds s₂ hD k₂ hl rv pv => q D vs ds s₂ (k₁.kp.none hD) (k₁.trans k₂) hl rv pv
/-! ### built-in functions of one argument -/
theorem ev_b1 {g : Str} {gp pos : Pos} {id : String} {e : Expr} {P : PyData → Prop} (hg : W.Gl g (.builtin id))
    (h : EV W A env ρ e fun d => ∀ (s : Shared) (O : Addr → Prop) (v : Value), Rp O s.heap v d → ∀ (Q E : Value → Shared → Prop), (∀ v d s', Mv s s' → Rp O s'.heap v d → P d → Q v s') → wpAny (model W.prog W.w) A (call (.builtin id) [v]) Q E s)
    (hk : env.kindOf g = some .globalImplicit := by rfl) (he : starEach [e] env = [(false, eval e env)] := by rfl) (hd : (g == ("__debug__" : Str)) = false := by decide) :
    EV W A env ρ (.Call (.Name g gp) [e] [] pos) P := by
  intro s O m R Q E q
  refine wpAny_Call_NameR (gname R hg hk ?_ hd)
  rw [he]
  refine callWith_builtin rfl (evalArgs_plain (spliced_cons (h s O m R _ _ fun v d s₁ k₁ r p => spliced_nil ?_)))
  exact p _ O v r _ _ fun v d s₂ k₂ rv pv => q v d s₂ (k₁.trans k₂) rv pv
theorem ev_len {gp pos : Pos} {e : Expr} (hg : W.Gl "len" (.builtin "len")) (h : EV W A env ρ e fun d => match d with | .list ds => ds.length < 2 ^ 62 ∧ P (.int ds.length) | .tuple ds => ds.length < 2 ^ 62 ∧ P (.int ds.length) | _ => False)
    (hk : env.kindOf "len" = some .globalImplicit := by rfl) (he : starEach [e] env = [(false, eval e env)] := by rfl) : EV W A env ρ (.Call (.Name "len" gp) [e] [] pos) P := by
  refine ev_b1 hg (h.mono fun d p s O v r Q E q => ?_) hk he (by decide)
  cases d <;> try exact p.elim
  · obtain ⟨a, vs, rfl, hl, rs, _⟩ := r.list_inv
    refine len_list hl (by rw [List.size_toArray, rs.length]; omega) ?_
    have := q _ _ { s with toks := s.toks + 1 + 1 } .tok (.int _ (s.toks + 1)) p.2
    rw [List.size_toArray, rs.length]
    exact this
  · obtain ⟨a, vs, rfl, hl, rs⟩ := r.tuple_inv
    refine len_tuple hl (by rw [List.size_toArray, rs.length]; omega) ?_
    have := q _ _ { s with toks := s.toks + 1 + 1 } .tok (.int _ (s.toks + 1)) p.2
    rw [List.size_toArray, rs.length]
    exact this
theorem ev_abs {gp pos : Pos} {e : Expr} (hg : W.Gl "abs" (.builtin "abs")) (h : EV W A env ρ e fun d => match d with | .int i => P (.int (if i < 0 then -i else i)) | _ => False)
    (hk : env.kindOf "abs" = some .globalImplicit := by rfl) (he : starEach [e] env = [(false, eval e env)] := by rfl) : EV W A env ρ (.Call (.Name "abs" gp) [e] [] pos) P := by
  refine ev_b1 hg (h.mono fun d p s O v r Q E q => ?_) hk he (by decide)
  cases d <;> try exact p.elim
  obtain ⟨t, rfl⟩ := r.int_inv
  exact call_abs_int fun u tk => q _ _ _ .tok (.int _ u) p
/-- len(str(x)) -/
theorem ev_strlen {gp pos sp spos : Pos} {e : Expr} (hg : W.Gl "len" (.builtin "len")) (hs : W.Gl "str" (.type "str"))
    (h : EV W A env ρ e fun d => match d with | .int i => i.natAbs.log2 < 1920 ∧ P (.int (Str.length (Str.ofString (toString i)))) | _ => False)
    (hk : env.kindOf "len" = some .globalImplicit := by rfl) (hks : env.kindOf "str" = some .globalImplicit := by rfl) (he : starEach [e] env = [(false, eval e env)] := by rfl) 
    (he' : starEach [Expr.Call (.Name "str" sp) [e] [] spos] env = [(false, eval (.Call (.Name "str" sp) [e] [] spos) env)] := by rfl) :
    EV W A env ρ (.Call (.Name "len" gp) [.Call (.Name "str" sp) [e] [] spos] [] pos) P := by
  intro s O m R Q E q
  refine wpAny_Call_NameR (gname R hg hk ?_ (by decide))
  rw [he']
  refine callWith_builtin rfl (evalArgs_plain (spliced_cons ?_))
  refine wpAny_Call_NameR (gname R hs hks ?_ (by decide))
  rw [he]
  refine PySem.callWith_type rfl (evalArgs_plain (spliced_cons (h s O m R _ _ fun v d s₁ k₁ r p => spliced_nil ?_)))
  cases d <;> try exact p.elim
  rename_i i
  obtain ⟨t, rfl⟩ := r.int_inv
  refine PySem.P.str_of_int p.1 (spliced_nil ?_)
  have hb : (Str.length (Str.ofString (toString i))) ≤ 1921 := by
    rw [PySem.ofString_length]
    exact int_text_length_le (by decide) p.1
  refine PyProof.Rows.len_str (by show ¬ ((Str.length (Str.ofString (toString i)) : Nat) : Int) ≥ 2 ^ 63; omega) ?_
  exact q _ _ _ (k₁.trans .tok) (.int _ _) p.2
theorem ev_min {gp pos : Pos} {e f : Expr} (hh : A.handled = none) (hg : W.Gl "min" (.builtin "min"))
    (h : EV W A env ρ e fun d => EV W A env ρ f fun d' => match d, d' with | .int i, .int j => P (.int (if j < i then j else i)) | _, _ => False)
    (hk : env.kindOf "min" = some .globalImplicit := by rfl) (he : starEach [e, f] env = [(false, eval e env), (false, eval f env)] := by rfl) : EV W A env ρ (.Call (.Name "min" gp) [e, f] [] pos) P := by
  intro s O m R Q E q
  refine wpAny_Call_NameR (gname R hg hk ?_ (by decide))
  rw [he]
  refine callWith_builtin rfl (evalArgs_plain (spliced_cons (h s O m R _ _ fun v d s₁ k₁ r p => spliced_cons (p _ O m (R.keeps k₁.kp) _ _ fun v' d' s₂ k₂ r' z => spliced_nil ?_))))
  cases d <;> cases d' <;> try exact z.elim
  rename_i i j
  obtain ⟨t, rfl⟩ := r.int_inv
  obtain ⟨u, rfl⟩ := r'.int_inv
  dsimp only at z
  refine min_two_ints hh fun h₃ t₃ k₃ => ?_
  by_cases hji : j < i
  · rw [if_pos hji]; rw [if_pos hji] at z
    exact q _ _ _ ((k₁.trans k₂).trans (.of k₃)) (.int _ _) z
  · rw [if_neg hji]; rw [if_neg hji] at z
    exact q _ _ _ ((k₁.trans k₂).trans (.of k₃)) (.int _ _) z
/-- type(x) is T -/
def tyOf : PyData → String
  | .int _ => "int"
  | .list _ => "list"
  | .tuple _ => "tuple"
  | .bool _ => "bool"
  | _ => "?"
theorem tv_typeIs {T : Str} {tn : String} {gp pos p2 p3 : Pos} {e : Expr} {P : Bool → Prop} (hg : W.Gl "type" (.type "type")) (hT : W.Gl T (.type tn))
    (h : EV W A env ρ e fun d => (tyOf d = "int" ∨ tyOf d = "list" ∨ tyOf d = "tuple") ∧ P (tyOf d == tn))
    (hk : env.kindOf "type" = some .globalImplicit := by rfl) (hkT : env.kindOf T = some .globalImplicit := by rfl) (he : starEach [e] env = [(false, eval e env)] := by rfl) (hd : (T == ("__debug__" : Str)) = false := by decide) :
    TV W A env ρ (.Compare (.Call (.Name "type" gp) [e] [] pos) [.Is] [.Name T p2] p3) P := by
  intro s O m R Q E q
  refine wpAny_isTrue_Compare1 ?_ rfl
  refine wpAny_Call_NameR (gname R hg hk ?_ (by decide))
  rw [he]
  refine PySem.callWith_type rfl (evalArgs_plain (spliced_cons (h s O m R _ _ fun v d s₁ k₁ r p => spliced_nil ?_)))
  have key : ∀ tn', s₁.TypeIs v tn' → tyOf d = tn' → (Value.type tn' == Value.type "builtin_function_or_method") = false → wpAny (model W.prog W.w) A (call (.type "type") [v]) (fun a s₂ => wpAny (model W.prog W.w) A (eval (.Name T p2) env) (fun b s₃ => wpAny (model W.prog W.w) A (compareOp .Is a b) (fun c s₄ => wpAny (model W.prog W.w) A (truthy c) Q E s₄) E s₃) E s₂) E s₁ := by
    intro tn' ht e1 e2
    refine call_type_of ht e2 ?_
    refine gname (R.keeps k₁.kp) hT hkT ?_ hd
    refine wpAny_is_plain rfl (wpAny_truthy_bool ?_)
    have hp := p.2
    rw [e1] at hp
    have e3 : (Value.type tn' == Value.type tn) = (tn' == tn) := by
      by_cases hq : tn' = tn
      · subst hq; rw [beq_self_eq_true, beq_self_eq_true]
      · rw [beq_eq_false_iff_ne.mpr hq, beq_eq_false_iff_ne.mpr (fun z => hq (Value.type.inj z))]
    rw [e3]
    exact q _ s₁ k₁ hp
  rcases d with _ | _ | _ | _ | ds | ds | _
  · exact absurd p.1 (by simp [tyOf])
  · exact absurd p.1 (by simp [tyOf])
  · obtain ⟨t, rfl⟩ := r.int_inv
    exact key "int" (typeIs_int _ _ _) rfl (by decide +kernel)
  · exact absurd p.1 (by simp [tyOf])
  · obtain ⟨a, vs, rfl, hl, _⟩ := r.list_inv
    exact key "list" hl.typeIs rfl (by decide +kernel)
  · obtain ⟨a, vs, rfl, hl, _⟩ := r.tuple_inv
    exact key "tuple" hl.typeIs rfl (by decide +kernel)
  · exact absurd p.1 (by simp [tyOf])
end
end Mine

set_option maxRecDepth 100000
set_option autoImplicit false
set_option linter.unusedVariables false
namespace Mine
open PySem PySem.Calls PyProof.Rows PySem.Spec
/-! ### what is iterated -/
def IT (W : Wd) (A : Around) (env : Env) (ρ : Store) (iter : Expr) (P : List PyData → Prop) : Prop :=
  ∀ (s : Shared) (O : Addr → Prop) (m : Str → Option Value), Rd W env ρ O m s.heap → ∀ (K E : Value → Shared → Prop),
    (∀ I fp ds Pv St s₁ s', Mv s s₁ → Mv s₁ s' → s₁.heap.get? I = none → Walks W.prog W.w A I fp [I] ds.length Pv St → St 0 s'.heap → (∀ b ∈ fp, b = I ∨ ∃ o, s₁.heap.get? b = some o) → (∀ i h, St i h → ∃ o, h.get? I = some o ∧ ∀ vs k, o.data ≠ .seq vs k) →
      (∀ i v d, ds[i]? = some d → Pv i v → Rp O s₁.heap v d) → ds.length ≤ 2 ^ 20 → P ds → K (.ref I) s') →
    wpAny (model W.prog W.w) A (eval iter env) (fun x s₁ => wpAny (model W.prog W.w) A (pyIter x) K E s₁) E s
/-- the ints from a up to b -/
def rangeL (a b : Int) : List PyData := (List.range (b - a).toNat).map fun (i : Nat) => PyData.int (a + (i : Int))
theorem rangeL_length (a b : Int) : (rangeL a b).length = (b - a).toNat := by simp [rangeL]
section
variable {W : Wd} {A : Around} {env : Env} {ρ : Store} {P P' : PyData → Prop}
theorem IT.mono {iter : Expr} {P P' : List PyData → Prop} (x : IT W A env ρ iter P) (k : ∀ d, P d → P' d) : IT W A env ρ iter P' :=
  fun s O m R K E f => x s O m R K E fun I fp ds Pv St s₁ s' a b c d e g i j l p => f I fp ds Pv St s₁ s' a b c d e g i j l (k ds p)
theorem it_list {e : Expr} {P : List PyData → Prop} (hh : A.handled = none) (h : EV W A env ρ e fun d => match d with | .list ds => ds.length ≤ 2 ^ 20 ∧ P ds | _ => False) : IT W A env ρ e P := by
  intro s O m R K E f
  refine h s O m R _ _ fun v d s₁ k₁ r p => ?_
  cases d <;> try exact p.elim
  rename_i ds
  obtain ⟨ax, vs, rfl, hl, rs, _⟩ := r.list_inv
  have hlt : ax < s₁.heap.objs.size := by obtain ⟨_, e, _⟩ := hl; exact Heap.lt_size e
  refine wpAny_pyIter_list hl ?_
  have Wk := Walks.list (prog := W.prog) (w := W.w) hh s₁.heap.objs.size ax (Nat.ne_of_lt hlt) vs.toArray
  have en : vs.toArray.size = ds.length := by rw [List.size_toArray, rs.length]
  rw [en] at Wk
  refine f s₁.heap.objs.size _ ds _ _ s₁ _ k₁ .new (get_none_of_size _) Wk ⟨⟨_, Heap.get?_push_size _ rfl, rfl, rfl⟩, hl.push _⟩ ?_ (fun i h st => by
    obtain ⟨⟨o, e, _, d⟩, _⟩ := st
    exact ⟨o, e, fun vs k q => by rw [d] at q; cases q⟩) ?_ p.1 p.2
  · intro b hb
    rcases List.mem_cons.mp hb with rfl | hb
    · exact .inl rfl
    · rw [List.mem_singleton.mp hb]
      obtain ⟨o, e, _⟩ := hl
      exact .inr ⟨o, e⟩
  · intro i v d hd hv
    obtain ⟨v', hv', rv⟩ := rs.get hd
    have : vs[i]? = some v := by simpa using hv
    rw [this] at hv'; cases hv'
    exact rv
theorem range_items {O : Addr → Prop} {h₁ : Heap} {a b : Int} {i : Nat} {v : Value} {d : PyData} (hd : (rangeL a b)[i]? = some d) (hv : ∃ t, v = .int (a + (i : Int) * 1) t) : Rp O h₁ v d := by
  obtain ⟨t, rfl⟩ := hv
  unfold rangeL at hd
  rw [List.getElem?_map] at hd
  by_cases hi : i < (b - a).toNat
  · rw [List.getElem?_range hi] at hd
    simp at hd
    subst hd
    rw [Int.mul_one]
    exact .int _ _
  · rw [List.getElem?_eq_none (by simp; omega)] at hd
    cases hd
theorem it_range_core {a b : Int} {t u v : Tok} {O : Addr → Prop} {s s₁ : Shared} {r : Addr} {P : List PyData → Prop} {K E : Value → Shared → Prop} (hh : A.handled = none) (k₁ : Mv s s₁) (hr : IsRange s₁.heap r a b 1 t u v) (ha : -(2 ^ 20) ≤ a) (hb : b ≤ 2 ^ 20) (hb' : -(2 ^ 60) ≤ b) (ha' : a ≤ 2 ^ 20) (hab : b - a ≤ 2 ^ 20)
    (p : P (rangeL a b))
    (f : ∀ I fp ds Pv St s₁ s', Mv s s₁ → Mv s₁ s' → s₁.heap.get? I = none → Walks W.prog W.w A I fp [I] ds.length Pv St → St 0 s'.heap → (∀ b ∈ fp, b = I ∨ ∃ o, s₁.heap.get? b = some o) → (∀ i h, St i h → ∃ o, h.get? I = some o ∧ ∀ vs k, o.data ≠ .seq vs k) →
      (∀ i v d, ds[i]? = some d → Pv i v → Rp O s₁.heap v d) → ds.length ≤ 2 ^ 20 → P ds → K (.ref I) s') :
    wpAny (model W.prog W.w) A (pyIter (.ref r)) K E s₁ := by
  refine wpAny_pyIter_range hr (small_one (by omega) (by omega) (by omega) (by omega)) ?_
  have Wk := Walks.range (prog := W.prog) (w := W.w) hh s₁.heap.objs.size a 1 (b - a).toNat
  rw [← rangeL_length] at Wk
  refine f s₁.heap.objs.size _ (rangeL a b) _ _ s₁ _ k₁ .new (get_none_of_size _) Wk ?_ (fun b hb => .inl (List.mem_singleton.mp hb)) (fun i h st => ⟨_, st, fun vs k q => by cases q⟩) (fun i v d hd hv => range_items hd hv) (by rw [rangeL_length]; omega) p
  show Heap.get? _ _ = some _
  rw [Heap.get?_push_size _ rfl]
  have e : Builtin.Range.rangeSize a b 1 = ((rangeL a b).length : Int) := by
    rw [rangeL_length, rangeSize_one]; split <;> omega
  rw [e]
  simp
theorem it_range1 {gp pos : Pos} {e : Expr} {P : List PyData → Prop} (hh : A.handled = none) (hg : W.Gl "range" (.type "range")) (h : EV W A env ρ e fun d => match d with | .int n => -(2 ^ 20) ≤ n ∧ n ≤ 2 ^ 20 ∧ P (rangeL 0 n) | _ => False)
    (hk : env.kindOf "range" = some .globalImplicit := by rfl) (he : starEach [e] env = [(false, eval e env)] := by rfl) : IT W A env ρ (.Call (.Name "range" gp) [e] [] pos) P := by
  intro s O m R K E f
  refine wpAny_Call_NameR (gname R hg hk ?_ (by decide))
  rw [he]
  refine PySem.callWith_type rfl (evalArgs_plain (spliced_cons (h s O m R _ _ fun v d s₁ k₁ r p => spliced_nil ?_)))
  cases d <;> try exact p.elim
  obtain ⟨t, rfl⟩ := r.int_inv
  refine call_range_1 ?_
  exact it_range_core (s := s) hh (k₁.trans (.of (Kp.push _ _))) (IsRange.new ..) (by decide) p.2.1 (by have := p.1; omega) (by decide) (by have := p.2.1; omega) p.2.2 f
theorem it_range2 {gp pos : Pos} {e e' : Expr} {P : List PyData → Prop} (hh : A.handled = none) (hg : W.Gl "range" (.type "range")) (h : EV W A env ρ e fun d => EV W A env ρ e' fun d' => match d, d' with | .int a, .int b => 0 ≤ a ∧ a ≤ 2 ^ 20 ∧ -(2 ^ 20) ≤ b ∧ b ≤ 2 ^ 20 ∧ P (rangeL a b) | _, _ => False)
    (hk : env.kindOf "range" = some .globalImplicit := by rfl) (he : starEach [e, e'] env = [(false, eval e env), (false, eval e' env)] := by rfl) : IT W A env ρ (.Call (.Name "range" gp) [e, e'] [] pos) P := by
  intro s O m R K E f
  refine wpAny_Call_NameR (gname R hg hk ?_ (by decide))
  rw [he]
  refine PySem.callWith_type rfl (evalArgs_plain (spliced_cons (h s O m R _ _ fun v d s₁ k₁ r p => spliced_cons (p _ O m (R.keeps k₁.kp) _ _ fun v' d' s₂ k₂ r' z => spliced_nil ?_))))
  cases d <;> cases d' <;> try exact z.elim
  obtain ⟨t, rfl⟩ := r.int_inv
  obtain ⟨u, rfl⟩ := r'.int_inv
  dsimp only at z
  refine call_range_2 ?_
  exact it_range_core (s := s) hh ((k₁.trans k₂).trans (.of (Kp.push _ _))) (IsRange.new ..) (by omega) (by omega) (by omega) (by omega) (by omega) z.2.2.2.2 f

/-! ### comprehensions -/
theorem cellsFrom_append : ∀ (names : List (Str × NameKind)) (n : Nat) (acc : List (Str × Addr)), cellsFrom n names acc = cellsFrom n names [] ++ acc
  | [], _, _ => rfl
  | (x, k) :: r, n, acc => by
    unfold cellsFrom
    split
    · rw [cellsFrom_append r (n + 1) ((x, n) :: acc), cellsFrom_append r (n + 1) [(x, n)], List.append_assoc]; rfl
    · exact cellsFrom_append r n acc
theorem newEnv_comp {M : Model} {scope : Scope} {cl : List (Str × Addr)} {s : Shared} {Q : Env → Shared → Prop} {E : Value → Shared → Prop}
    (h : ∀ h', Kp s.heap h' → h'.Ns s.heap.objs.size (fun _ => none) → (∀ n c, (n, c) ∈ cellsFrom (s.heap.objs.size + 1) scope.names [] → h'.IsCell c none ∧ s.heap.objs.size + 1 ≤ c) →
      Q { scope := scope, locals := s.heap.objs.size, globals := env.globals, cells := cellsFrom (s.heap.objs.size + 1) scope.names cl, qual := env.qual, func := none, code := env.code, frame := env.frame, builtins := env.builtins } { s with heap := h' }) :
    wpAny M A (newFunctionEnv scope env.globals cl [] env.qual none .none (some env)) Q E s := by
  simp only [newFunctionEnv, Option.isSome_some, if_true]
  refine wpAny_bind (wpAny_alloc ?_)
  refine wpAny_bind (wpAny_layCells _ (fun name kind cells => by cases hkc : kind == NameKind.cell <;> simp [hkc]) _ _ _ _ ?_)
  have ok := cellsFrom_ok scope.names (s.heap.push { cls := .type "dict", data := .dict #[] }) (s.heap.objs.size + 1) [] ⟨fun _ _ hm => (nomatch hm), List.Pairwise.nil⟩ (by rw [Heap.size_push]; exact Nat.le_refl _)
  rw [Heap.size_push] at ok
  rw [show ({ s with heap := s.heap.push { cls := .type "dict", data := .dict #[] } } : Shared).heap.objs.size = s.heap.objs.size + 1 from Heap.size_push ..]
  refine wpAny_bind (wpAny_pure (wpAny_pure ?_))
  exact h _ (fun b o e => pushCells_keeps _ _ b o (Heap.get?_push_of_some _ e)) ((Heap.Ns.new s.heap (.type "dict")).keeps (pushCells_keeps _ _)) fun n c hm => ok.empty n c hm
abbrev ce (scope : Scope) (cl : List (Str × Addr)) (env : Env) (C : Addr) : Env := compEnvC scope (cellsFrom (C + 1) scope.names cl) C env
structure CompOk (scope : Scope) (env : Env) (cl : List (Str × Addr)) (x : Str) (fr : List Str) : Prop where
  clos : closureFor scope env = pure cl
  kind : scope.kind = .function
  names : ∀ z ∈ scope.names, z.2 = .local → scope.names.lookup z.1 = some .local
  hx : ∀ C, (ce scope cl env C).kindOf x = some .local ∨ ((ce scope cl env C).kindOf x = some .cell ∧ ∃ c, (ce scope cl env C).cells.lookup x = some c ∧ (x, c) ∈ cellsFrom (C + 1) scope.names [])
  hfr : ∀ C, ∀ y ∈ fr, y ≠ x ∧ env.kindOf y = some .cell ∧ (ce scope cl env C).kindOf y = some .cell ∧ (ce scope cl env C).cells.lookup y = env.cells.lookup y
def frStore (ρ : Store) (fr : List Str) : Store := fr.filterMap fun y => (ρ.lookup y).map fun sl => (y, sl)
theorem frStore_lookup {ρ : Store} {y : Str} {sl : Slot} : ∀ {fr : List Str}, (frStore ρ fr).lookup y = some sl → y ∈ fr ∧ ρ.lookup y = some sl
  | [], h => by cases h
  | z :: r, h => by
    unfold frStore at h
    rw [List.filterMap_cons] at h
    cases hz : ρ.lookup z with
    | none =>
      rw [hz] at h
      have := frStore_lookup (fr := r) h
      exact ⟨.tail _ this.1, this.2⟩
    | some q =>
      rw [hz] at h
      dsimp only [Option.map_some] at h
      rw [List.lookup_cons] at h
      by_cases hyz : y = z
      · subst hyz
        rw [beq_self_eq_true] at h
        exact ⟨.head _, by rw [hz]; exact h⟩
      · rw [beq_eq_false_iff_ne.mpr hyz] at h
        have := frStore_lookup (fr := r) h
        exact ⟨.tail _ this.1, this.2⟩
/-- the tests of a clause -/
def TVs (W : Wd) (A : Around) (env : Env) (ρ : Store) (ifs : List Expr) (b : Bool) : Prop := match ifs with
  | [] => b = true
  | [t] => TV W A env ρ t fun c => c = b
  | _ => False
end
end Mine

set_option maxRecDepth 100000
set_option autoImplicit false
set_option linter.unusedVariables false
namespace Mine
open PySem PySem.Calls PyProof.Rows PySem.Spec
section
variable {W : Wd} {A : Around} {env : Env} {ρ : Store} {P P' : PyData → Prop}
theorem ns_noSeq {h : Heap} {a : Addr} {m : Str → Option Value} (n : h.Ns a m) : ∃ o, h.get? a = some o ∧ ∀ vs k, o.data ≠ .seq vs k := by
  obtain ⟨o, es, ep, e, d, _⟩ := n
  exact ⟨o, e, fun vs k q => by rw [d] at q; cases q⟩
theorem cell_noSeq {h : Heap} {a : Addr} {v : Option Value} (n : h.IsCell a v) : ∃ o, h.get? a = some o ∧ ∀ vs k, o.data ≠ .seq vs k := by
  obtain ⟨o, e, d⟩ := n
  exact ⟨o, e, fun vs k q => by rw [d] at q; cases q⟩
theorem store_x {scope : Scope} {cl : List (Str × Addr)} {x : Str} {px : Pos} {fr : List Str} {C : Nat} {m' : Str → Option Value} {s : Shared} {v : Value} {Q : Unit → Shared → Prop} {E : Value → Shared → Prop}
    (ok : CompOk scope env cl x fr) (hns : s.heap.Ns C m') (hcells : ∀ n c, (n, c) ∈ cellsFrom (C + 1) scope.names [] → ∃ v, s.heap.IsCell c v) (hlo : ∀ n (c : Nat), (n, c) ∈ cellsFrom (C + 1) scope.names [] → C + 1 ≤ c)
    (f : ∀ h' tk m'' (T : Nat), (T = C ∨ ∃ n, (n, T) ∈ cellsFrom (C + 1) scope.names []) → (∀ b o, b ≠ T → s.heap.get? b = some o → h'.get? b = some o) → (∃ o, s.heap.get? T = some o ∧ ∀ vs k, o.data ≠ .seq vs k) → h'.Ns C m'' →
      (∀ n c, (n, c) ∈ cellsFrom (C + 1) scope.names [] → ∃ v, h'.IsCell c v) → Nm (ce scope cl env C) m'' h' x v → Q () { s with heap := h', toks := tk }) :
    wpAny (model W.prog W.w) A (assign (.Name x px) (ce scope cl env C) v) Q E s := by
  refine wpAny_assign_Name ?_
  have hk : (ce scope cl env C).scope.kind = .function := ok.kind
  rcases ok.hx C with hl | ⟨hl, c, hc, hm⟩
  · refine wpAny_storeName_local hl hns (fun h' hn hs => ?_) (by rw [hk]; rfl)
    refine f h' _ _ C (.inl rfl) (fun b o hb e => hs.extBut b o hb e) (ns_noSeq hns) hn (fun n c hm => ?_) (.inl ⟨hl, by simp⟩)
    obtain ⟨v, hv⟩ := hcells n c hm
    exact ⟨v, hv.sameBut hs (Nat.ne_of_gt (hlo n c hm))⟩
  · obtain ⟨v₀, hv₀⟩ := hcells x c hm
    refine wpAny_storeName_cell hk hl hc hv₀ fun h' hc' hs => ?_
    refine f h' s.toks m' c (.inr ⟨x, hm⟩) (fun b o hb e => hs.extBut b o hb e) (cell_noSeq hv₀) (hns.sameBut hs (Nat.ne_of_lt (hlo x c hm))) (fun n c₂ hm₂ => ?_) (.inr ⟨hl, c, hc, hc'⟩)
    by_cases q : c₂ = c
    · subst q; exact ⟨_, hc'⟩
    · obtain ⟨v, hv⟩ := hcells n c₂ hm₂
      exact ⟨v, hv.sameBut hs q⟩
theorem take_map {f : PyData → PyData} {pz : PyData → Bool} {ds : List PyData} {i : Nat} {d : PyData} (h : ds[i]? = some d) :
    ((ds.take (i + 1)).filter pz).map f = ((ds.take i).filter pz).map f ++ (if pz d then [f d] else []) := by
  rw [List.take_add_one, h]
  simp only [Option.toList_some, List.filter_append, List.map_append]
  congr 1
  cases hp : pz d <;> simp [hp]
theorem tests_tv {ifs : List Expr} {s : Shared} {O : Addr → Prop} {m : Str → Option Value} {b : Bool} {Q : Bool → Shared → Prop} {E : Value → Shared → Prop} (R : Rd W env ρ O m s.heap) (h : TVs W A env ρ ifs b) (q : ∀ s', Mv s s' → Q b s') :
    wpAny (model W.prog W.w) A (forIn ifs true fun c r => if r = true then do let ok ← isTrue c env (eval c env); pure (ForInStep.yield ok) else pure (ForInStep.yield r)) Q E s := by
  match ifs, h with
  | [], h => 
    have h' : b = true := h
    subst h'
    exact wpAny_tests_nil (q s (.refl _))
  | [t], h => exact wpAny_tests_one (h s O m R _ _ fun c s' k e => by subst e; exact q s' k)
set_option maxHeartbeats 1000000 in
theorem comp_core {elt iter : Expr} {x : Str} {px pos' : Pos} {ifs : List Expr} {scope : Scope} {pos : Pos} {cl : List (Str × Addr)} {fr : List Str} {use : Option (Value → Sem Unit)} {s : Shared} {O : Addr → Prop} {m : Str → Option Value} {Qc E : Value → Shared → Prop} {P : List PyData → Prop}
    (R : Rd W env ρ O m s.heap) (ok : CompOk scope env cl x fr) (f : PyData → PyData) (pz : PyData → Bool)
    (hi : IT W A env ρ iter fun ds => (∀ d ∈ ds, ∀ C, TVs W A (ce scope cl env C) ((x, .sh d) :: frStore ρ fr) ifs (pz d) ∧ (pz d = true → EV W A (ce scope cl env C) ((x, .sh d) :: frStore ρ fr) elt fun y => y = f d)) ∧ P ((ds.filter pz).map f))
    (hpost : ∀ D C ys outs s' m', s.heap.get? D = none → s.heap.get? C = none → D ≠ C → Mv s s' → s'.heap.Ns C m' → s'.heap.PlainList D ys.toArray → RpAll (fun a => O a ∨ a = D) s'.heap ys outs → P outs → compPost (model W.prog W.w) A E use Qc (.ref D) C (.ok .next) s')
    (hs : ∀ x, foldedSetIterable iter env x = pure x) :
    wpAny (model W.prog W.w) A (comprehension (.ListComp elt [⟨.Name x px, iter, ifs, 0⟩] scope pos) scope env pos' (newList []) false (eval iter env) use) Qc E s := by
  refine wpAny_comprehension_free (g := ⟨.Name x px, iter, ifs, 0⟩) (gs := []) rfl hs ok.clos ok.kind ok.names ?_
  refine hi s O m R _ _ fun I fp ds Pv St s₁ s₂ k₁ k₂ hI Wk st hfp hIo hit hlen p => ?_
  obtain ⟨hel, hP⟩ := p
  refine wpAny_newObj_type ?_ (by show ([] : List Value).toArray.size ≤ sizeLine; simp)
  refine newEnv_comp fun h₃ k₃ hns hcells => ?_
  dsimp only at k₃ hns hcells ⊢
  generalize hH2 : s₂.heap.push { cls := .type "list", dict := none, data := .seq ([] : List Value).toArray } = H2 at k₃ hns hcells ⊢
  have hC : (H2.objs.size : Nat) = s₂.heap.objs.size + 1 := by rw [← hH2, Heap.size_push]
  have kH : Kp s₂.heap H2 := by rw [← hH2]; exact Kp.push _ _
  have hD2 : H2.PlainList s₂.heap.objs.size ([] : List Value).toArray := ⟨0, by rw [← hH2]; exact Heap.get?_push_size _ rfl⟩
  have big2 : ∀ a : Nat, s₂.heap.objs.size ≤ a → s₂.heap.get? a = none := fun a ha => by
    cases e : s₂.heap.get? a with
    | none => rfl
    | some o => exact absurd (Heap.lt_size e) (Nat.not_lt.mpr ha)
  obtain ⟨oI, hIo', _⟩ := hIo 0 _ st
  have hIlt : (I : Nat) < s₂.heap.objs.size := Heap.lt_size hIo'
  generalize (s₂.heap.objs.size : Nat) = D at *
  generalize (H2.objs.size : Nat) = C at *
  subst hC
  have hDC : D ≠ D + 1 := Nat.ne_of_lt (Nat.lt_succ_self _)
  have big1 : ∀ a : Nat, D ≤ a → s₁.heap.get? a = none := fun a ha => k₂.kp.none (big2 a ha)
  have big0 : ∀ a : Nat, D ≤ a → s.heap.get? a = none := fun a ha => k₁.kp.none (big1 a ha)
  have hlo : ∀ n (c : Nat), (n, c) ∈ cellsFrom (D + 1 + 1) scope.names [] → D + 1 + 1 ≤ c := fun n c hm => (hcells n c hm).2
  have hTbig : ∀ T : Nat, (T = D + 1 ∨ ∃ n, (n, T) ∈ cellsFrom (D + 1 + 1) scope.names []) → D + 1 ≤ T := by
    rintro T (rfl | ⟨n, hm⟩)
    · exact Nat.le_refl _
    · exact Nat.le_of_succ_le (hlo n T hm)
  have nI : ∀ b : Nat, D ≤ b → b ∉ [I] := fun b hb hm => by
    have e : b = I := List.mem_singleton.mp hm
    rw [e] at hb
    exact absurd hIlt (Nat.not_lt.mpr hb)
  have loop : ∀ s₃ : Shared, s₃ = { s₂ with heap := h₃ } →
      codeAny (model W.prog W.w) A (.compLoop (.ListComp elt [⟨.Name x px, iter, ifs, 0⟩] scope pos) 0 (.ref I) (.ref D) (ce scope cl env (D + 1))) (compPost (model W.prog W.w) A E use Qc (.ref D) (D + 1)) s₃ := by
    rintro s₃ rfl
    refine codeAny_compLoop_tests
      (fun k s' => ∃ i ys m', Mo s₁ s' ∧ i ≤ ds.length ∧ k = ds.length + 1 - i ∧ St i s'.heap ∧ Kp s₁.heap s'.heap ∧ s'.heap.Ns (D + 1) m' ∧ (∀ n c, (n, c) ∈ cellsFrom (D + 1 + 1) scope.names [] → ∃ v, s'.heap.IsCell c v) ∧
        s'.heap.PlainList D ys.toArray ∧ RpAll (fun a => O a ∨ a = D) s'.heap ys (((ds.take i).filter pz).map f)) ?_ (ds.length + 1)
      ⟨0, [], _, k₂.mo.trans .heap, Nat.zero_le _, rfl, ?_, (k₂.kp.trans kH).trans k₃, hns, fun n c hm => ⟨_, (hcells n c hm).1⟩, hD2.at fun o e => k₃ _ o e, by simpa using RpAll.nil⟩
    · rintro k s' ⟨i, ys, m', mo, hi', rfl, hst', kh, hn', hcl', hpl, hrp⟩
      obtain ⟨oI', hIh, hIns⟩ := hIo i s'.heap hst'
      by_cases hlt : i < ds.length
      · have hd : ds[i]? = some ds[i] := List.getElem?_eq_getElem hlt
        have hdm : ds[i] ∈ ds := List.getElem_mem hlt
        generalize ds[i] = d at hd hdm
        obtain ⟨ht, he⟩ := hel d hdm (D + 1)
        refine Wk.item i _ _ _ hlt hst' fun v h₄ tk₄ hPv hst₄ hk₄ => ?_
        have kb₄ : ∀ b o, b ≠ I → s'.heap.get? b = some o → h₄.get? b = some o := fun b o hb e => hk₄ b o (by simpa using hb) e
        have kI : Kp s₁.heap h₄ := fun b o e => hk₄ b o (fun hm => by rw [List.mem_singleton.mp hm, hI] at e; cases e) (kh b o e)
        have hn₄ : h₄.Ns (D + 1) m' := hn'.at' fun o e => hk₄ _ o (nI _ (Nat.le_succ _)) e
        have hcl₄ : ∀ n c, (n, c) ∈ cellsFrom (D + 1 + 1) scope.names [] → ∃ v, h₄.IsCell c v := fun n c hm => by
          obtain ⟨v, o, e, q⟩ := hcl' n c hm
          exact ⟨v, o, hk₄ c o (nI c (Nat.le_of_succ_le (Nat.le_of_succ_le (hlo n c hm)))) e, q⟩
        have hpl₄ : h₄.PlainList D ys.toArray := hpl.at fun o e => hk₄ D o (nI D (Nat.le_refl _)) e
        have hrp₄ := hrp.butNs hIh hIns kb₄
        refine store_x ok hn₄ hcl₄ hlo fun h₅ tk₅ m₅ T hT kT hTo hn₅ hcl₅ hNm => ?_
        have hTD : D + 1 ≤ T := hTbig T hT
        obtain ⟨oT, hTo, hTns⟩ := hTo
        have neT : ∀ (b : Nat), b < D + 1 → b ≠ T := fun b hb q => by rw [q] at hb; exact absurd hb (Nat.not_lt.mpr hTD)
        have k₅ : Kp s₁.heap h₅ := fun b o e => kT b o (fun q => by rw [q, big1 T (Nat.le_of_succ_le hTD)] at e; cases e) (kI b o e)
        have hpl₅ : h₅.PlainList D ys.toArray := hpl₄.at fun o e => kT D o (neT D (Nat.lt_succ_self _)) e
        have hrp₅ := hrp₄.butNs hTo hTns kT
        have hst₅ : St (i + 1) h₅ := Wk.frame _ _ _ hst₄ fun b hb o e => kT b o (fun q => by
          rcases hfp b hb with rfl | ⟨o', e'⟩
          · exact neT _ (Nat.lt_succ_of_lt hIlt) q
          · rw [q, big1 T (Nat.le_of_succ_le hTD)] at e'; cases e') e
        have R₁ := R.keeps k₁.kp
        have Rc : Rd W (ce scope cl env (D + 1)) ((x, .sh d) :: frStore ρ fr) (fun a => O a ∨ a = D) m₅ h₅ := {
          fn := ok.kind
          gl := R.gl
          bi := R.bi
          ns := hn₅
          at_ := fun y dy hy => by
            rw [List.lookup_cons] at hy
            by_cases hyx : y = x
            · subst hyx
              rw [beq_self_eq_true] at hy
              cases hy
              exact ⟨v, hNm, (hit i v d hd hPv).addNew (big1 D (Nat.le_refl _)) k₅⟩
            · rw [beq_eq_false_iff_ne.mpr hyx] at hy
              obtain ⟨hyf, hyr⟩ := frStore_lookup hy
              obtain ⟨_, h1, h2, h3⟩ := ok.hfr (D + 1) y hyf
              obtain ⟨v', n', r'⟩ := R₁.at_ y dy hyr
              rcases n' with ⟨a, _⟩ | ⟨_, c, b, g⟩
              · rw [h1] at a; cases a
              · exact ⟨v', .inr ⟨h2, c, by rw [h3]; exact b, g.keeps k₅⟩, r'.addNew (big1 D (Nat.le_refl _)) k₅⟩
          al := fun a q => by
            rcases q with q | q
            · obtain ⟨o, e⟩ := R₁.al a q
              exact ⟨o, k₅ a o e⟩
            · subst q
              obtain ⟨n, e⟩ := hpl₅
              exact ⟨_, e⟩
          gr := R₁.gr.trans k₅ }
        refine tests_tv Rc ht fun s₆ mv₆ => ?_
        have k₆ := mv₆.kp
        have mo₆ : Mo s₁ s₆ := (mo.trans (Mo.trans .of .of)).trans mv₆.mo
        cases hpz : pz d with
        | false =>
          simp only [Bool.false_eq_true, if_false]
          refine ⟨ds.length + 1 - (i + 1), by omega, i + 1, ys, m₅, mo₆, hlt, rfl, Wk.frame _ _ _ hst₅ fun b _ o e => k₆ b o e, k₅.trans k₆, hn₅.keeps k₆, fun n c hm => ?_, hpl₅.at fun o e => k₆ _ o e, ?_⟩
          · obtain ⟨v, hv⟩ := hcl₅ n c hm
            exact ⟨v, hv.keeps k₆⟩
          · rw [take_map hd, hpz]
            simpa using hrp₅.keeps k₆
        | true =>
          simp only [if_true]
          refine he hpz _ _ m₅ (Rc.keeps k₆) _ _ fun y dy s₇ mv₇ ry ey => ?_
          have k₇ := mv₇.kp
          subst ey
          have hpl₇ : s₇.heap.PlainList D ys.toArray := (hpl₅.at fun o e => k₆ _ o e).at fun o e => k₇ _ o e
          have hrp₇ := (hrp₅.keeps k₆).keeps k₇
          have hsz : ys.toArray.size ≤ sizeLine := by
            rw [List.size_toArray, hrp₇.length, sizeLine_eq, List.length_map]
            have := List.length_filter_le pz (ds.take i)
            have := List.length_take_le i ds
            omega
          refine wpAny_list_append_plain (hsz := hsz) hpl₇ fun h₈ hl₈ hs₈ => ?_
          obtain ⟨nn, hD7⟩ := hpl₇
          have k₈ : ∀ b o, b ≠ D → s₇.heap.get? b = some o → h₈.get? b = some o := fun b o hb e => hs₈.extBut b o hb e
          refine ⟨ds.length + 1 - (i + 1), by omega, i + 1, ys ++ [y], m₅, (mo₆.trans mv₇.mo).trans .heap, hlt, rfl, Wk.frame _ _ _ hst₅ fun b hb o e => k₈ b o (fun q => ?_) (k₇ b o (k₆ b o e)), ?_, ((hn₅.keeps k₆).keeps k₇).sameBut hs₈ (Ne.symm hDC), fun n c hm => ?_, by simpa using hl₈, ?_⟩
          · rcases hfp b hb with rfl | ⟨o', e'⟩
            · exact Nat.ne_of_lt hIlt q
            · rw [q, big1 D (Nat.le_refl _)] at e'; cases e'
          · exact fun b o e => k₈ b o (fun q => by rw [q, big1 D (Nat.le_refl _)] at e; cases e) (k₇ b o (k₆ b o (k₅ b o e)))
          · obtain ⟨v, hv⟩ := hcl₅ n c hm
            exact ⟨v, ((hv.keeps k₆).keeps k₇).sameBut hs₈ (Nat.ne_of_gt (Nat.lt_of_succ_lt (Nat.lt_of_lt_of_le (Nat.lt_succ_self _) (hlo n c hm))))⟩
          · rw [take_map hd, hpz]
            exact (hrp₇.butOwn hD7 rfl (.inr rfl) k₈).append (.cons (ry.butOwn hD7 rfl (.inr rfl) k₈) .nil)
      · obtain rfl : i = ds.length := Nat.le_antisymm hi' (Nat.not_lt.mp hlt)
        refine Wk.done _ _ _ hst' fun h₄ tk₄ hk₄ => ?_
        have kb₄ : ∀ b o, b ≠ I → s'.heap.get? b = some o → h₄.get? b = some o := fun b o hb e => hk₄ b o (by simpa using hb) e
        have kI : Kp s₁.heap h₄ := fun b o e => hk₄ b o (fun hm => by rw [List.mem_singleton.mp hm, hI] at e; cases e) (kh b o e)
        have hrp₄ := hrp.butNs hIh hIns kb₄
        rw [List.take_length] at hrp₄
        exact hpost D (D + 1) ys _ _ m' (big0 D (Nat.le_refl _)) (big0 (D + 1) (Nat.le_succ _)) hDC (k₁.trans ((mo.trans .of).mv kI)) (hn'.at' fun o e => hk₄ _ o (nI _ (Nat.le_succ _)) e) (hpl.at fun o e => hk₄ D o (nI D (Nat.le_refl _)) e) hrp₄ hP
    · exact Wk.frame _ _ _ st fun b hb o e => k₃ b o (kH b o e)
  exact codeAny_compStart_list (loop _ rfl) (Wk.self 0 _ _ _ (Wk.frame _ _ _ st fun b hb o e => k₃ b o (kH b o e)) (loop _ rfl))
theorem evo_comp {elt iter : Expr} {x : Str} {px : Pos} {ifs : List Expr} {scope : Scope} {pos : Pos} {cl : List (Str × Addr)} {fr : List Str} {P : List PyData → Prop}
    (ok : CompOk scope env cl x fr) (f : PyData → PyData) (pz : PyData → Bool)
    (hi : IT W A env ρ iter fun ds => (∀ d ∈ ds, ∀ C, TVs W A (ce scope cl env C) ((x, .sh d) :: frStore ρ fr) ifs (pz d) ∧ (pz d = true → EV W A (ce scope cl env C) ((x, .sh d) :: frStore ρ fr) elt fun y => y = f d)) ∧ P ((ds.filter pz).map f))
    (hs : ∀ x, foldedSetIterable iter env x = pure x := by intro _; rfl) : EVo W A env ρ (.ListComp elt [⟨.Name x px, iter, ifs, 0⟩] scope pos) P := by
  intro s O m R Q E q
  rw [eval_ListComp]
  refine comp_core R ok f pz hi (fun D C ys outs s' m' hD hC hDC k hn hl hr hp => ?_) hs
  refine ⟨m', hn, fun h'' hs'' => ?_⟩
  obtain ⟨o, e, ns⟩ := ns_noSeq hn
  refine q D ys outs { s' with heap := h'' } hD ((k.mo.trans .heap).mv fun b o e => hs''.extBut b o (fun z => by rw [z, hC] at e; cases e) (k.kp b o e)) (hl.extBut hs''.extBut hDC) (hr.butNs e ns fun b o hb e => hs''.extBut b o hb e) hp
end
end Mine

set_option maxRecDepth 100000
set_option autoImplicit false
set_option linter.unusedVariables false
namespace Mine
open PySem PySem.Calls PyProof.Rows PySem.Spec
/-! ## statements -/
def LsB (pl : Bool) (h : Heap) (a : Addr) (its : Array Value) : Prop := match pl with
  | true => h.PlainList a its
  | false => h.IsList a its
theorem LsB.isList {pl : Bool} {h : Heap} {a : Addr} {its : Array Value} (x : LsB pl h a its) : h.IsList a its := by
  cases pl with
  | true => exact Heap.PlainList.isList x
  | false => exact x
theorem LsB.at {pl : Bool} {h h' : Heap} {a : Addr} {its : Array Value} (x : LsB pl h a its) (k : ∀ o, h.get? a = some o → (∃ n, o.data = .seq its n) → h'.get? a = some o) : LsB pl h' a its := by
  cases pl with
  | true => obtain ⟨n, e⟩ := x; exact ⟨n, k _ e ⟨n, rfl⟩⟩
  | false => obtain ⟨o, e, c, n, d⟩ := x; exact ⟨o, k _ e ⟨n, d⟩, c, n, d⟩
structure InvC (W : Wd) (k : Addr → Option Obj) (O₀ : Addr → Prop) (env : Env) (ρ : Store) (O : Addr → Prop) (m : Str → Option Value) (ad : Str → Addr) (h : Heap) : Prop where
  rd : Rd W env ρ O m h
  sub : ∀ a, O₀ a → O a
  kb : ∀ b o, W.base.get? b = some o → k b = some o
  kk : ∀ b o, k b = some o → h.get? b = some o
  kl : k env.locals = none
  kc : ∀ x c, env.cells.lookup x = some c → k c = none ∧ ∃ v, h.IsCell c v
  ap : env.cells.Pairwise fun x y => x.2 ≠ y.2
  ow : ∀ x pl ds, ρ.lookup x = some (.own pl ds) → ∃ vs, Nm env m h x (.ref (ad x)) ∧ O (ad x) ∧ ¬ O₀ (ad x) ∧ k (ad x) = none ∧ LsB pl h (ad x) vs.toArray ∧ RpAll O h vs ds
  okk : ∀ a, O a → O₀ a ∨ k a = none
  inj : ∀ x y pl pe ds es, ρ.lookup x = some (.own pl ds) → ρ.lookup y = some (.own pe es) → ad x = ad y → x = y
def Inv (W : Wd) (k : Addr → Option Obj) (O₀ : Addr → Prop) (env : Env) (ρ : Store) (s : Shared) : Prop := ∃ O m ad, InvC W k O₀ env ρ O m ad s.heap
inductive Out where
  | next (ρ : Store)
  | brk (ρ : Store)
  | cont (ρ : Store)
  | ret (d : PyData)
  | reto (ds : List PyData)
def Fl (W : Wd) (k : Addr → Option Obj) (O₀ : Addr → Prop) (env : Env) : Out → Flow → Shared → Prop
  | .next ρ, fl, s' => fl = .next ∧ Inv W k O₀ env ρ s'
  | .brk ρ, fl, s' => fl = .brk ∧ Inv W k O₀ env ρ s'
  | .cont ρ, fl, s' => fl = .cont ∧ Inv W k O₀ env ρ s'
  | .ret d, fl, s' => ∃ v, fl = .ret v ∧ (∀ b o, k b = some o → s'.heap.get? b = some o) ∧ Rp O₀ s'.heap v d
  | .reto ds, fl, s' => ∃ D vs, fl = .ret (.ref D) ∧ (∀ b o, k b = some o → s'.heap.get? b = some o) ∧ k D = none ∧ ¬ O₀ D ∧ s'.heap.PlainList D vs.toArray ∧ RpAll (fun a => O₀ a ∨ a = D) s'.heap vs ds
def EX (W : Wd) (A : Around) (env : Env) (ρ : Store) (ss : List Stmt) (P : Out → Prop) : Prop :=
  ∀ (k : Addr → Option Obj) (O₀ : Addr → Prop) (s : Shared), Inv W k O₀ env ρ s → ∀ (Q : Flow → Shared → Prop) (E : Value → Shared → Prop),
    (∀ o fl s', P o → Mo s s' → Fl W k O₀ env o fl s' → Q fl s') → wpAny (model W.prog W.w) A (execs ss env) Q E s
def EX1 (W : Wd) (A : Around) (env : Env) (ρ : Store) (st : Stmt) (P : Out → Prop) : Prop :=
  ∀ (k : Addr → Option Obj) (O₀ : Addr → Prop) (s : Shared), Inv W k O₀ env ρ s → ∀ (Q : Flow → Shared → Prop) (E : Value → Shared → Prop),
    (∀ o fl s', P o → Mo s s' → Fl W k O₀ env o fl s' → Q fl s') → wpAny (model W.prog W.w) A (exec st env) Q E s
section
variable {W : Wd} {A : Around} {env : Env} {ρ : Store} {P P' : Out → Prop} {k : Addr → Option Obj} {O₀ O : Addr → Prop} {m : Str → Option Value} {ad : Str → Addr} {h h' : Heap}
theorem EX.mono {ss : List Stmt} (x : EX W A env ρ ss P) (q : ∀ o, P o → P' o) : EX W A env ρ ss P' := fun k O₀ s I Q E f => x k O₀ s I Q E fun o fl s' p => f o fl s' (q o p)
theorem EX1.mono {st : Stmt} (x : EX1 W A env ρ st P) (q : ∀ o, P o → P' o) : EX1 W A env ρ st P' := fun k O₀ s I Q E f => x k O₀ s I Q E fun o fl s' p => f o fl s' (q o p)
theorem InvC.keeps (I : InvC W k O₀ env ρ O m ad h) (q : Kp h h') : InvC W k O₀ env ρ O m ad h' where
  rd := I.rd.keeps q
  sub := I.sub
  kb := I.kb
  kk := fun b o e => q b o (I.kk b o e)
  kl := I.kl
  kc := fun x c hm => ⟨(I.kc x c hm).1, let ⟨v, e⟩ := (I.kc x c hm).2; ⟨v, e.keeps q⟩⟩
  ap := I.ap
  ow := fun x pl ds e => let ⟨vs, a, b, c, d, l, r⟩ := I.ow x pl ds e; ⟨vs, a.keeps q, b, c, d, l.at fun o e _ => q _ o e, r.keeps q⟩
  okk := I.okk
  inj := I.inj
theorem ex_nil (p : P (.next ρ)) : EX W A env ρ [] P := fun k O₀ s I Q E f => wpAny_execs_nil (f (.next ρ) _ s p (.refl s) ⟨rfl, I⟩)
theorem ex_cons {st : Stmt} {rest : List Stmt} (x : EX1 W A env ρ st fun o => match o with | .next ρ' => EX W A env ρ' rest P | o => P o) : EX W A env ρ (st :: rest) P := by
  intro k O₀ s I Q E f
  refine wpAny_execs_cons (x k O₀ s I _ _ fun o fl s' p sm g => ?_)
  cases o with
  | next ρ' =>
    obtain ⟨rfl, I'⟩ := g
    exact p k O₀ s' I' Q E fun o fl s'' p sm' g => f o fl s'' p (sm.trans sm') g
  | brk ρ' => obtain ⟨rfl, I'⟩ := g; exact f (.brk ρ') _ s' p sm ⟨rfl, I'⟩
  | cont ρ' => obtain ⟨rfl, I'⟩ := g; exact f (.cont ρ') _ s' p sm ⟨rfl, I'⟩
  | ret d => obtain ⟨v, rfl, g⟩ := g; exact f (.ret d) _ s' p sm ⟨v, rfl, g⟩
  | reto ds => obtain ⟨D, vs, rfl, g⟩ := g; exact f (.reto ds) _ s' p sm ⟨D, vs, rfl, g⟩
theorem ex_if {test : Expr} {body orelse : List Stmt} {pos : Pos} (x : TV W A env ρ test fun b => if b then EX W A env ρ body P else EX W A env ρ orelse P) : EX1 W A env ρ (.If test body orelse pos) P := by
  intro k O₀ s I Q E f
  obtain ⟨O, m, ad, I⟩ := I
  refine wpAny_If (x s O m I.rd _ _ fun b s₁ k₁ p => ?_)
  have I' : Inv W k O₀ env ρ s₁ := ⟨O, m, ad, I.keeps k₁.kp⟩
  cases b with
  | true => exact p k O₀ _ I' Q E fun o fl s'' p sm' g => f o fl s'' p (k₁.mo.trans sm') g
  | false => exact p k O₀ _ I' Q E fun o fl s'' p sm' g => f o fl s'' p (k₁.mo.trans sm') g
theorem ex_ret {e : Expr} {pos : Pos} (x : EV W A env ρ e fun d => P (.ret d)) : EX1 W A env ρ (.Return (some e) pos) P := by
  intro k O₀ s I Q E f
  obtain ⟨O, m, ad, I⟩ := I
  refine wpAny_Return_some (x s O m I.rd _ _ fun v d s₁ k₁ r p => ?_)
  exact f (.ret d) _ _ p k₁.mo ⟨v, rfl, fun b o e => k₁.kp b o (I.kk b o e), r.weak I.sub⟩
theorem ex_reto {e : Expr} {pos : Pos} (x : EVo W A env ρ e fun ds => P (.reto ds)) : EX1 W A env ρ (.Return (some e) pos) P := by
  intro k O₀ s I Q E f
  obtain ⟨O, m, ad, I⟩ := I
  refine wpAny_Return_some (x s O m I.rd _ _ fun D vs ds s₁ hD k₁ hl r p => ?_)
  refine f (.reto ds) _ _ p k₁.mo ⟨D, vs, rfl, fun b o e => k₁.kp b o (I.kk b o e), ?_, fun q => I.rd.fresh hD (I.sub _ q), hl, r.weak fun a q => q.imp (I.sub a) id⟩
  cases q : k D with
  | none => rfl
  | some o => rw [I.kk D o q] at hD; cases hD
/-- an own list is handed back -/
theorem ex_reto_name {x : Str} {xp pos : Pos} {ds : List PyData} (hx : ρ.lookup x = some (.own true ds)) (p : P (.reto ds)) (hd : (x == ("__debug__" : Str)) = false := by decide) : EX1 W A env ρ (.Return (some (.Name x xp)) pos) P := by
  intro k O₀ s I Q E f
  obtain ⟨O, m, ad, I⟩ := I
  obtain ⟨vs, n, oO, nO, kn, hl, r⟩ := I.ow x true ds hx
  have q := f (.reto ds) _ s p (.refl s) ⟨ad x, vs, rfl, I.kk, kn, nO, hl, r.weak fun a q => q.elim (I.sub a) fun e => e ▸ oO⟩
  refine wpAny_Return_some ?_
  rcases n with ⟨a, b⟩ | ⟨a, c, b, g⟩
  · exact wpAny_Name (wpAny_loadName_local I.rd.fn a I.rd.ns b q) hd
  · exact wpAny_Name (wpAny_loadName_cell I.rd.fn a b g q) hd
theorem ex_continue {pos : Pos} (p : P (.cont ρ)) : EX1 W A env ρ (.Continue pos) P := fun k O₀ s I Q E f => wpAny_Continue (f (.cont ρ) _ s p (.refl s) ⟨rfl, I⟩)
/-! ### storing a name -/
def Stb (env : Env) (x : Str) : Prop := env.kindOf x = some .local ∨ (env.kindOf x = some .cell ∧ ∃ c, env.cells.lookup x = some c)
structure Stored (env : Env) (k : Addr → Option Obj) (m : Str → Option Value) (h : Heap) (x : Str) (v : Value) (T : Addr) (m' : Str → Option Value) (h' : Heap) : Prop where
  nm : Nm env m' h' x v
  others : ∀ y w, y ≠ x → Nm env m h y w → Nm env m' h' y w
  ns : h'.Ns env.locals m'
  but : ∀ b o, b ≠ T → h.get? b = some o → h'.get? b = some o
  nos : ∃ o, h.get? T = some o ∧ ∀ vs n, o.data ≠ .seq vs n
  kT : k T = none
  cells : ∀ y c, env.cells.lookup y = some c → ∃ v, h'.IsCell c v
  stays : ∃ o, h'.get? T = some o
  wh : T = env.locals ∨ ∃ y, env.cells.lookup y = some T
theorem st_core {x : Str} {v : Value} {s : Shared} {Q : Unit → Shared → Prop} {E : Value → Shared → Prop} (I : InvC W k O₀ env ρ O m ad s.heap) (hx : Stb env x)
    (f : ∀ h' tk m' T, Stored env k m s.heap x v T m' h' → Q () { s with heap := h', toks := tk }) : wpAny (model W.prog W.w) A (storeName env x v) Q E s := by
  have nsq := ns_noSeq I.rd.ns
  rcases hx with hl | ⟨hl, c, hc⟩
  · refine wpAny_storeName_local hl I.rd.ns (fun h' hn hs => ?_) (by rw [I.rd.fn]; rfl)
    have cne : ∀ y c, env.cells.lookup y = some c → c ≠ env.locals := fun y c hm q => by
      obtain ⟨v, o, e, d⟩ := (I.kc y c hm).2
      obtain ⟨oL, es, ep, e', d', _⟩ := I.rd.ns
      rw [q, e'] at e; cases e
      rw [d'] at d; cases d
    refine f h' _ _ env.locals ⟨.inl ⟨hl, by simp⟩, fun y w hy n => ?_, hn, fun b o hb e => hs.extBut b o hb e, nsq, I.kl, fun y c hm => ?_, ?_, .inl rfl⟩
    · rcases n with ⟨a, b⟩ | ⟨a, c, b, g⟩
      · exact .inl ⟨a, by simp [hy, b]⟩
      · exact .inr ⟨a, c, b, g.sameBut hs (cne y c b)⟩
    · obtain ⟨v, e⟩ := (I.kc y c hm).2
      exact ⟨v, e.sameBut hs (cne y c hm)⟩
    · obtain ⟨o, _, _, e, _⟩ := hn
      exact ⟨o, e⟩
  · obtain ⟨kn, v₀, hv₀⟩ := I.kc x c hc
    have cL : env.locals ≠ c := fun q => by
      obtain ⟨o, e, d⟩ := hv₀
      obtain ⟨oL, es, ep, e', d', _⟩ := I.rd.ns
      rw [← q, e'] at e; cases e
      rw [d'] at d; cases d
    refine wpAny_storeName_cell I.rd.fn hl hc hv₀ fun h' hc' hs => ?_
    refine f h' s.toks m c ⟨.inr ⟨hl, c, hc, hc'⟩, fun y w hy n => ?_, I.rd.ns.sameBut hs cL, fun b o hb e => hs.extBut b o hb e, cell_noSeq hv₀, kn, fun y c₂ hm => ?_, ?_, .inr ⟨x, hc⟩⟩
    · rcases n with ⟨a, b⟩ | ⟨a, c₂, b, g⟩
      · exact .inl ⟨a, b⟩
      · exact .inr ⟨a, c₂, b, g.sameBut hs fun q => hy (name_of_addr I.ap (mem_of_lookup b) (q ▸ mem_of_lookup hc))⟩
    · by_cases q : c₂ = c
      · subst q; exact ⟨_, hc'⟩
      · obtain ⟨v, e⟩ := (I.kc y c₂ hm).2
        exact ⟨v, e.sameBut hs q⟩
    · obtain ⟨o, e, _⟩ := hc'
      exact ⟨o, e⟩
theorem plain_but {T a : Addr} {its : Array Value} (hT : ∃ o, h.get? T = some o ∧ ∀ vs n, o.data ≠ .seq vs n) (b : ∀ b o, b ≠ T → h.get? b = some o → h'.get? b = some o) {pl : Bool} (l : LsB pl h a its) : LsB pl h' a its := by
  obtain ⟨o, e', ns⟩ := hT
  refine l.at fun o₁ e c => b a _ (fun q => ?_) e
  rw [q, e'] at e; cases e
  obtain ⟨n, d⟩ := c
  exact ns _ _ d
theorem lookup_self {x : Str} {sl : Slot} {ρ : Store} : List.lookup x ((x, sl) :: ρ) = some sl := by rw [List.lookup_cons, beq_self_eq_true]
theorem lookup_ne {x y : Str} {sl : Slot} {ρ : Store} (h : y ≠ x) : List.lookup y ((x, sl) :: ρ) = ρ.lookup y := by rw [List.lookup_cons, beq_eq_false_iff_ne.mpr h]
theorem InvC.stored {x : Str} {v : Value} {d : PyData} {T : Addr} {m' : Str → Option Value} (I : InvC W k O₀ env ρ O m ad h) (S : Stored env k m h x v T m' h') (r : Rp O h v d) : InvC W k O₀ env ((x, .sh d) :: ρ) O m' ad h' := by
  obtain ⟨oT, hT, nT⟩ := S.nos
  have kk' : ∀ b o, k b = some o → h'.get? b = some o := fun b o e => S.but b o (fun q => by rw [q, S.kT] at e; cases e) (I.kk b o e)
  refine { rd := ⟨I.rd.fn, I.rd.gl, I.rd.bi, S.ns, fun y dy hy => ?_, fun a q => ?_, fun b o e => kk' b o (I.kb b o e)⟩, sub := I.sub, kb := I.kb, kk := kk', kl := I.kl, kc := fun y c hm => ⟨(I.kc y c hm).1, S.cells y c hm⟩, ap := I.ap, ow := fun y pl ds hy => ?_, okk := I.okk, inj := fun y z pl pe ds es hy hz e => ?_ }
  · by_cases q : y = x
    · subst q
      rw [lookup_self] at hy; cases hy
      exact ⟨v, S.nm, r.butNs hT nT S.but⟩
    · rw [lookup_ne q] at hy
      obtain ⟨w, n, rw'⟩ := I.rd.at_ y dy hy
      exact ⟨w, S.others y w q n, rw'.butNs hT nT S.but⟩
  · by_cases q' : a = T
    · subst q'; exact S.stays
    · obtain ⟨o, e⟩ := I.rd.al a q
      exact ⟨o, S.but a o q' e⟩
  · by_cases q : y = x
    · subst q; rw [lookup_self] at hy; cases hy
    · rw [lookup_ne q] at hy
      obtain ⟨vs, n, a, b, c, l, rs⟩ := I.ow y pl ds hy
      exact ⟨vs, S.others y _ q n, a, b, c, plain_but S.nos S.but l, rs.butNs hT nT S.but⟩
  · by_cases q : y = x
    · subst q; rw [lookup_self] at hy; cases hy
    · by_cases q' : z = x
      · subst q'; rw [lookup_self] at hz; cases hz
      · rw [lookup_ne q] at hy; rw [lookup_ne q'] at hz
        exact I.inj y z pl pe ds es hy hz e
theorem InvC.kfresh {D : Addr} (I : InvC W k O₀ env ρ O m ad h) (hD : h.get? D = none) : k D = none := by
  cases q : k D with
  | none => rfl
  | some o => rw [I.kk D o q] at hD; cases hD
/-- a fresh list is set apart -/
theorem InvC.withFresh {D : Addr} (I : InvC W k O₀ env ρ O m ad h) (hD : h.get? D = none) (q : Kp h h') (hD' : ∃ o, h'.get? D = some o) : InvC W k O₀ env ρ (fun a => O a ∨ a = D) m ad h' := by
  have J := I.keeps q
  refine { rd := ⟨J.rd.fn, J.rd.gl, J.rd.bi, J.rd.ns, fun y dy hy => ?_, fun a p => ?_, J.rd.gr⟩, sub := fun a p => .inl (I.sub a p), kb := I.kb, kk := J.kk, kl := I.kl, kc := J.kc, ap := I.ap, ow := fun y pl ds hy => ?_, okk := fun a p => p.elim (I.okk a) fun e => .inr (e ▸ I.kfresh hD), inj := I.inj }
  · obtain ⟨w, n, r⟩ := I.rd.at_ y dy hy
    exact ⟨w, n.keeps q, r.addNew hD q⟩
  · rcases p with p | p
    · exact J.rd.al a p
    · rw [p]; exact hD'
  · obtain ⟨vs, n, a, b, c, l, rs⟩ := I.ow y pl ds hy
    exact ⟨vs, n.keeps q, .inl a, b, c, l.at fun o e _ => q _ o e, rs.addNew hD q⟩
theorem InvC.storedOwn {x : Str} {D : Addr} {vs : List Value} {ds : List PyData} {T : Addr} {m' : Str → Option Value} (I : InvC W k O₀ env ρ O m ad h) (S : Stored env k m h x (.ref D) T m' h') (oD : O D) (nD : ¬ O₀ D) (kD : k D = none)
    (hl : h.PlainList D vs.toArray) (r : RpAll O h vs ds) (hne : ∀ y pe es, ρ.lookup y = some (.own pe es) → ad y ≠ D) : InvC W k O₀ env ((x, .own true ds) :: ρ) O m' (fun y => if y = x then D else ad y) h' := by
  obtain ⟨oT, hT, nT⟩ := S.nos
  have kk' : ∀ b o, k b = some o → h'.get? b = some o := fun b o e => S.but b o (fun q => by rw [q, S.kT] at e; cases e) (I.kk b o e)
  refine { rd := ⟨I.rd.fn, I.rd.gl, I.rd.bi, S.ns, fun y dy hy => ?_, fun a q => ?_, fun b o e => kk' b o (I.kb b o e)⟩, sub := I.sub, kb := I.kb, kk := kk', kl := I.kl, kc := fun y c hm => ⟨(I.kc y c hm).1, S.cells y c hm⟩, ap := I.ap, ow := fun y pl ds' hy => ?_, okk := I.okk, inj := fun y z pl pe ds' es hy hz e => ?_ }
  · by_cases q : y = x
    · subst q
      rw [lookup_self] at hy; cases hy
    · rw [lookup_ne q] at hy
      obtain ⟨w, n, rw'⟩ := I.rd.at_ y dy hy
      exact ⟨w, S.others y w q n, rw'.butNs hT nT S.but⟩
  · by_cases q' : a = T
    · subst q'; exact S.stays
    · obtain ⟨o, e⟩ := I.rd.al a q
      exact ⟨o, S.but a o q' e⟩
  · by_cases q : y = x
    · subst q
      rw [lookup_self] at hy; cases hy
      simp only [if_true]
      exact ⟨vs, S.nm, oD, nD, kD, plain_but S.nos S.but hl, r.butNs hT nT S.but⟩
    · rw [lookup_ne q] at hy
      simp only [if_neg q]
      obtain ⟨vs, n, a, b, c, l, rs⟩ := I.ow y pl ds' hy
      exact ⟨vs, S.others y _ q n, a, b, c, plain_but S.nos S.but l, rs.butNs hT nT S.but⟩
  · by_cases q : y = x
    · by_cases q' : z = x
      · rw [q, q']
      · rw [lookup_ne q'] at hz
        rw [if_pos q, if_neg q'] at e
        exact absurd e.symm (hne z pe es hz)
    · by_cases q' : z = x
      · rw [lookup_ne q] at hy
        rw [if_neg q, if_pos q'] at e
        exact absurd e (hne y pl ds' hy)
      · rw [lookup_ne q] at hy; rw [lookup_ne q'] at hz
        rw [if_neg q, if_neg q'] at e
        exact I.inj y z pl pe ds' es hy hz e
theorem InvC.ne_fresh {D : Addr} (I : InvC W k O₀ env ρ O m ad h) (hD : h.get? D = none) : ∀ y pe es, ρ.lookup y = some (.own pe es) → ad y ≠ D := fun y pe es hy q => by
  obtain ⟨vs, n, a, b, c, l, rs⟩ := I.ow y pe es hy
  obtain ⟨o, l, _⟩ := l.isList
  rw [q, hD] at l; cases l
theorem InvC.butNs {C : Addr} (J : InvC W k O₀ env ρ O m ad h) (hC : ∃ o, h.get? C = some o ∧ ∀ vs n, o.data ≠ .seq vs n) (kC : k C = none) (hL : env.locals ≠ C) (hcell : ∀ y c, env.cells.lookup y = some c → c ≠ C) (hO : ¬ O C)
    (b : ∀ b o, b ≠ C → h.get? b = some o → h'.get? b = some o) : InvC W k O₀ env ρ O m ad h' := by
  obtain ⟨oC, eC, nC⟩ := id hC
  have kk' : ∀ b o, k b = some o → h'.get? b = some o := fun a o e => b a o (fun q => by rw [q, kC] at e; cases e) (J.kk a o e)
  have cl : ∀ y c v, env.cells.lookup y = some c → h.IsCell c v → h'.IsCell c v := fun y c v hm e => by
    obtain ⟨o, e, d⟩ := e
    exact ⟨o, b c o (hcell y c hm) e, d⟩
  have nm : ∀ y v, Nm env m h y v → Nm env m h' y v := fun y v n => by
    rcases n with ⟨a, g⟩ | ⟨a, c, g, e⟩
    · exact .inl ⟨a, g⟩
    · exact .inr ⟨a, c, g, cl y c _ g e⟩
  refine { rd := ⟨J.rd.fn, J.rd.gl, J.rd.bi, J.rd.ns.at' fun o e => b _ o hL e, fun y dy hy => ?_, fun a p => ?_, fun a o e => kk' a o (J.kb a o e)⟩, sub := J.sub, kb := J.kb, kk := kk', kl := J.kl, kc := fun y c hm => ⟨(J.kc y c hm).1, ?_⟩, ap := J.ap, ow := fun y pl ds hy => ?_, okk := J.okk, inj := J.inj }
  · obtain ⟨w, n, r⟩ := J.rd.at_ y dy hy
    exact ⟨w, nm y w n, r.butNs eC nC b⟩
  · obtain ⟨o, e⟩ := J.rd.al a p
    exact ⟨o, b a o (fun q => hO (q ▸ p)) e⟩
  · obtain ⟨v, e⟩ := (J.kc y c hm).2
    exact ⟨v, cl y c v hm e⟩
  · obtain ⟨vs, n, p1, p2, p3, l, rs⟩ := J.ow y pl ds hy
    exact ⟨vs, nm y _ n, p1, p2, p3, plain_but hC b l, rs.butNs eC nC b⟩
/-! ### assignments -/
theorem ex_assign {x : Str} {xp pos : Pos} {value : Expr} (hx : Stb env x) (h : EV W A env ρ value fun d => P (.next ((x, .sh d) :: ρ))) (hs : swapsWith value (some (.Name x xp)) pos.line env = pure false := by rfl) : EX1 W A env ρ (.Assign [.Name x xp] value pos) P := by
  intro k O₀ s I Q E f
  obtain ⟨O, m, ad, I⟩ := I
  refine wpAny_Assign_Name (h s O m I.rd _ _ fun v d s₁ k₁ r p => ?_) hs
  refine st_core (I.keeps k₁.kp) hx fun h₂ t₂ m' T S => ?_
  exact f (.next _) _ _ p (k₁.mo.trans .of) ⟨rfl, O, m', ad, (I.keeps k₁.kp).stored S r⟩
theorem ex_assign_own {x : Str} {xp pos : Pos} {value : Expr} (hx : Stb env x) (h : EVo W A env ρ value fun ds => P (.next ((x, .own true ds) :: ρ))) (hs : swapsWith value (some (.Name x xp)) pos.line env = pure false := by rfl) : EX1 W A env ρ (.Assign [.Name x xp] value pos) P := by
  intro k O₀ s I Q E f
  obtain ⟨O, m, ad, I⟩ := I
  refine wpAny_Assign_Name (h s O m I.rd _ _ fun D vs ds s₁ hD k₁ hl r p => ?_) hs
  have J := I.withFresh hD k₁.kp (let ⟨n, e⟩ := hl; ⟨_, e⟩)
  refine st_core J hx fun h₂ t₂ m' T S => ?_
  exact f (.next _) _ _ p (k₁.mo.trans .of) ⟨rfl, _, m', _, J.storedOwn S (.inr rfl) (fun q => I.rd.fresh hD (I.sub _ q)) (I.kfresh hD) hl r (I.ne_fresh hD)⟩
/-- x = [.. for .. in ..], x a plain local -/
theorem ex_assign_comp {y : Str} {yp spos : Pos} {elt iter : Expr} {x : Str} {px : Pos} {ifs : List Expr} {scope : Scope} {pos : Pos} {cl : List (Str × Addr)} {fr : List Str}
    (hy : env.kindOf y = some .local) (ok : CompOk scope env cl x fr) (f : PyData → PyData) (pz : PyData → Bool)
    (hi : IT W A env ρ iter fun ds => (∀ d ∈ ds, ∀ C, TVs W A (ce scope cl env C) ((x, .sh d) :: frStore ρ fr) ifs (pz d) ∧ (pz d = true → EV W A (ce scope cl env C) ((x, .sh d) :: frStore ρ fr) elt fun y => y = f d)) ∧ P (.next ((y, .own true ((ds.filter pz).map f)) :: ρ)))
    (hsw : swapsWith (.ListComp elt [⟨.Name x px, iter, ifs, 0⟩] scope pos) (some (.Name y yp)) spos.line env = pure true := by rfl)
    (hs : ∀ x, foldedSetIterable iter env x = pure x := by intro _; rfl) : EX1 W A env ρ (.Assign [.Name y yp] (.ListComp elt [⟨.Name x px, iter, ifs, 0⟩] scope pos) spos) P := by
  intro k O₀ s I Q E q
  obtain ⟨O, m, ad, I⟩ := I
  rw [exec_Assign_Name_used _ _ _ _ hsw]
  refine wpAny_bind (wpAny_standAt (wpAny_bind ?_))
  show wpAny _ A (do let _ ← comprehension (.ListComp elt [⟨.Name x px, iter, ifs, 0⟩] scope pos) scope env _ (newList []) false (eval iter env) (some (assign (.Name y yp) env))) _ _ s
  refine wpAny_bind (wpAny_mono (comp_core (P := fun ds => P (.next ((y, .own true ds) :: ρ))) (Qc := fun _ s' => Q .next s') I.rd ok f pz hi (fun D C ys outs s₁ m₁ hD hC hDC k₁ hn hl r p => ?_) hs) (fun _ s' hq => wpAny_pure (wpAny_pure hq)) fun _ _ e => e)
  have J := I.withFresh hD k₁.kp (let ⟨n, e⟩ := hl; ⟨_, e⟩)
  show wpAny _ A (assign (.Name y yp) env (.ref D)) _ _ _
  refine wpAny_assign_Name (st_core J (.inl hy) fun h₂ t₂ m' T S => ?_)
  have J₂ := J.storedOwn S (.inr rfl) (fun q => I.rd.fresh hD (I.sub _ q)) (I.kfresh hD) hl r (I.ne_fresh hD)
  have hLC : env.locals ≠ C := fun q => by
    obtain ⟨o, _, _, e, _⟩ := I.rd.ns
    rw [q, hC] at e; cases e
  have hcC : ∀ y c, env.cells.lookup y = some c → c ≠ C := fun y c hm q => by
    obtain ⟨v, o, e, _⟩ := (I.kc y c hm).2
    rw [q, hC] at e; cases e
  have hTC : C ≠ T := fun q => by
    rcases S.wh with w | ⟨y, w⟩
    · exact hLC (by rw [q, w])
    · exact hcC y T w q.symm
  have hn₂ : h₂.Ns C m₁ := hn.at' fun o e => S.but C o hTC e
  refine ⟨m₁, hn₂, fun h₃ hs₃ => ?_⟩
  refine q (.next _) _ _ p (k₁.mo.trans (Mo.trans .of .heap)) ⟨rfl, _, m', _, J₂.butNs (ns_noSeq hn₂) (I.kfresh hC) hLC hcC (fun w => ?_) fun b o hb e => hs₃.extBut b o hb e⟩
  rcases w with w | w
  · exact I.rd.fresh hC w
  · exact hDC w.symm
end
end Mine

set_option maxRecDepth 100000
set_option autoImplicit false
set_option linter.unusedVariables false
namespace Mine
open PySem PySem.Calls PyProof.Rows PySem.Spec
section
variable {W : Wd} {A : Around} {env : Env} {ρ : Store} {P P' : Out → Prop} {k : Addr → Option Obj} {O₀ O : Addr → Prop} {m : Str → Option Value} {ad : Str → Addr} {h h' : Heap}
/-! ### forgetting and sharing -/
def SubS : Store → Store → Prop
  | [], _ => True
  | (x, sl) :: r, ρ => ρ.lookup x = some sl ∧ SubS r ρ
theorem SubS.get {ρ : Store} {x : Str} {sl : Slot} : ∀ {ρ' : Store}, SubS ρ' ρ → ρ'.lookup x = some sl → ρ.lookup x = some sl
  | [], _, e => by cases e
  | (y, s) :: r, q, e => by
    by_cases hxy : x = y
    · subst hxy; rw [lookup_self] at e; cases e; exact q.1
    · rw [lookup_ne hxy] at e; exact SubS.get q.2 e
theorem Inv.weak {ρ' : Store} {s : Shared} (q : SubS ρ' ρ) (I : Inv W k O₀ env ρ s) : Inv W k O₀ env ρ' s := by
  obtain ⟨O, m, ad, I⟩ := I
  exact ⟨O, m, ad, { rd := ⟨I.rd.fn, I.rd.gl, I.rd.bi, I.rd.ns, fun x d e => I.rd.at_ x d (q.get e), I.rd.al, I.rd.gr⟩, sub := I.sub, kb := I.kb, kk := I.kk, kl := I.kl, kc := I.kc, ap := I.ap, ow := fun x pl ds e => I.ow x pl ds (q.get e), okk := I.okk, inj := fun x y pl pe ds es a b => I.inj x y pl pe ds es (q.get a) (q.get b) }⟩
theorem ex_weak {ρ' : Store} {ss : List Stmt} (q : SubS ρ' ρ) (x : EX W A env ρ' ss P) : EX W A env ρ ss P := fun k O₀ s I Q E f => x k O₀ s (I.weak q) Q E f
theorem InvC.share {x : Str} {pl : Bool} {ds : List PyData} (I : InvC W k O₀ env ρ O m ad h) (hx : ρ.lookup x = some (.own pl ds)) : InvC W k O₀ env ((x, .sh (.list ds)) :: ρ) (fun a => O a ∧ a ≠ ad x) m ad h := by
  obtain ⟨vs, n, oO, nO, kn, l, rs⟩ := I.ow x pl ds hx
  refine { rd := ⟨I.rd.fn, I.rd.gl, I.rd.bi, I.rd.ns, fun y dy hy => ?_, fun a q => I.rd.al a q.1, I.rd.gr⟩, sub := fun a q => ⟨I.sub a q, fun e => nO (e ▸ q)⟩, kb := I.kb, kk := I.kk, kl := I.kl, kc := I.kc, ap := I.ap, ow := fun y pl' ds' hy => ?_, okk := fun a q => I.okk a q.1, inj := fun y z pl pe ds' es hy hz e => ?_ }
  · by_cases q : y = x
    · subst q
      rw [lookup_self] at hy; cases hy
      exact ⟨_, n, Rp.of_list l.isList (rs.weak fun a q => q.1) fun q => q.2 rfl⟩
    · rw [lookup_ne q] at hy
      obtain ⟨w, n', r'⟩ := I.rd.at_ y dy hy
      exact ⟨w, n', r'.weak fun a q => q.1⟩
  · by_cases q : y = x
    · subst q; rw [lookup_self] at hy; cases hy
    · rw [lookup_ne q] at hy
      obtain ⟨vs', n', a, b, c, l', rs'⟩ := I.ow y pl' ds' hy
      exact ⟨vs', n', ⟨a, fun e => q (I.inj y x _ _ _ _ hy hx e)⟩, b, c, l', rs'.weak fun a q => q.1⟩
  · by_cases q : y = x
    · subst q; rw [lookup_self] at hy; cases hy
    · by_cases q' : z = x
      · subst q'; rw [lookup_self] at hz; cases hz
      · rw [lookup_ne q] at hy; rw [lookup_ne q'] at hz
        exact I.inj y z _ _ _ _ hy hz e
theorem ex_share (x : Str) {pl : Bool} {ds : List PyData} {ss : List Stmt} (hx : ρ.lookup x = some (.own pl ds)) (e : EX W A env ((x, .sh (.list ds)) :: ρ) ss P) : EX W A env ρ ss P := by
  intro k O₀ s I Q E f
  obtain ⟨O, m, ad, I⟩ := I
  exact e k O₀ s ⟨_, m, ad, I.share hx⟩ Q E f
/-! ### changing an own list -/
theorem load_own {x : Str} {xp : Pos} {pl : Bool} {ds : List PyData} {s : Shared} {Q E : Value → Shared → Prop} (I : InvC W k O₀ env ρ O m ad s.heap) (hx : ρ.lookup x = some (.own pl ds)) (hd : (x == ("__debug__" : Str)) = false) (q : Q (.ref (ad x)) s) :
    wpAny (model W.prog W.w) A (eval (.Name x xp) env) Q E s := by
  obtain ⟨vs, n, _⟩ := I.ow x pl ds hx
  rcases n with ⟨a, b⟩ | ⟨a, c, b, g⟩
  · exact wpAny_Name (wpAny_loadName_local I.rd.fn a I.rd.ns b q) hd
  · exact wpAny_Name (wpAny_loadName_cell I.rd.fn a b g q) hd
theorem InvC.changed {x : Str} {pl pl' : Bool} {ds ds' : List PyData} {vs' : List Value} (I : InvC W k O₀ env ρ O m ad h) (hx : ρ.lookup x = some (.own pl ds)) (b : ∀ b o, b ≠ ad x → h.get? b = some o → h'.get? b = some o) (l' : LsB pl' h' (ad x) vs'.toArray)
    (r' : RpAll O h' vs' ds') : InvC W k O₀ env ((x, .own pl' ds') :: ρ) O m ad h' := by
  obtain ⟨vs, n, oO, nO, kn, l, rs⟩ := I.ow x pl ds hx
  obtain ⟨oa, ea, ca, na, da⟩ := l.isList
  have kk' : ∀ a o, k a = some o → h'.get? a = some o := fun a o e => b a o (fun q => by rw [q, kn] at e; cases e) (I.kk a o e)
  have hL : env.locals ≠ ad x := fun q => by
    obtain ⟨o, es, ep, e, d, _⟩ := I.rd.ns
    rw [q, ea] at e; cases e
    rw [da] at d; cases d
  have cl : ∀ y c v, env.cells.lookup y = some c → h.IsCell c v → h'.IsCell c v := fun y c v hm e => by
    obtain ⟨o, e, d⟩ := e
    exact ⟨o, b c o (fun q => by rw [q, ea] at e; cases e; rw [da] at d; cases d) e, d⟩
  have nm : ∀ y v, Nm env m h y v → Nm env m h' y v := fun y v n => by
    rcases n with ⟨a, g⟩ | ⟨a, c, g, e⟩
    · exact .inl ⟨a, g⟩
    · exact .inr ⟨a, c, g, cl y c _ g e⟩
  refine { rd := ⟨I.rd.fn, I.rd.gl, I.rd.bi, I.rd.ns.at' fun o e => b _ o hL e, fun y dy hy => ?_, fun a p => ?_, fun a o e => kk' a o (I.kb a o e)⟩, sub := I.sub, kb := I.kb, kk := kk', kl := I.kl, kc := fun y c hm => ⟨(I.kc y c hm).1, ?_⟩, ap := I.ap, ow := fun y pl₂ ds₂ hy => ?_, okk := I.okk, inj := fun y z plx pe dsx es hy hz e => ?_ }
  · by_cases q : y = x
    · subst q
      rw [lookup_self] at hy; cases hy
    · rw [lookup_ne q] at hy
      obtain ⟨w, n', r'⟩ := I.rd.at_ y dy hy
      exact ⟨w, nm y w n', r'.butOwn ea ca oO b⟩
  · by_cases q : a = ad x
    · obtain ⟨o, e, _⟩ := l'.isList
      exact ⟨o, by rw [q]; exact e⟩
    · obtain ⟨o, e⟩ := I.rd.al a p
      exact ⟨o, b a o q e⟩
  · obtain ⟨v, e⟩ := (I.kc y c hm).2
    exact ⟨v, cl y c v hm e⟩
  · by_cases q : y = x
    · subst q
      rw [lookup_self] at hy; cases hy
      exact ⟨vs', nm _ _ n, oO, nO, kn, l', r'⟩
    · rw [lookup_ne q] at hy
      obtain ⟨vs₂, n₂, a₂, b₂, c₂, l₂, rs₂⟩ := I.ow y pl₂ ds₂ hy
      exact ⟨vs₂, nm _ _ n₂, a₂, b₂, c₂, l₂.at fun o e _ => b _ o (fun z => q (I.inj y x _ _ _ _ hy hx z)) e, rs₂.butOwn ea ca oO b⟩
  · have lk : ∀ {w : Str} {pl : Bool} {es : List PyData}, List.lookup w ((x, Slot.own pl' ds') :: ρ) = some (.own pl es) → w = x ∨ ρ.lookup w = some (.own pl es) := by
      intro w pl es hw
      by_cases q : w = x
      · exact .inl q
      · rw [lookup_ne q] at hw; exact .inr hw
    rcases lk hy with hy' | hy' <;> rcases lk hz with hz' | hz'
    · rw [hy', hz']
    · exact I.inj y z _ _ _ _ (hy'.symm ▸ hx) hz' e
    · exact I.inj y z _ _ _ _ hy' (hz'.symm ▸ hx) e
    · exact I.inj y z _ _ _ _ hy' hz' e
theorem ex_setitem {x : Str} {xp sp pos : Pos} {pl : Bool} {ds : List PyData} {i value : Expr} (hx : ρ.lookup x = some (.own pl ds))
    (g : EV W A env ρ value fun d => EV W A env ρ i fun b => match b with | .int j => 0 ≤ j ∧ j < ds.length ∧ j < 2 ^ 63 ∧ P (.next ((x, .own false (ds.set j.toNat d)) :: ρ)) | _ => False)
    (hs : swapsWith value (some (.Subscript (.Name x xp) i sp)) pos.line env = pure false := by rfl) (hd : (x == ("__debug__" : Str)) = false := by decide) : EX1 W A env ρ (.Assign [.Subscript (.Name x xp) i sp] value pos) P := by
  intro k O₀ s I Q E f
  obtain ⟨O, m, ad, I⟩ := I
  refine wpAny_Assign_Subscript (g s O m I.rd _ _ fun v d s₁ k₁ r p => ?_) hs
  refine load_own (I.keeps k₁.kp) hx hd ?_
  refine p _ O m (I.keeps k₁.kp).rd _ _ fun iv b s₂ k₂ rb z => ?_
  cases b <;> try exact z.elim
  rename_i j
  obtain ⟨z1, z2, z3, p⟩ := z
  obtain ⟨u, rfl⟩ := rb.int_inv
  have J := (I.keeps k₁.kp).keeps k₂.kp
  obtain ⟨vs, n, oO, nO, kn, l, rs⟩ := J.ow x pl ds hx
  obtain ⟨oa, ea, ca, na, da⟩ := l.isList
  refine wpAny_setItem_list l.isList z1 z3 (by rw [List.size_toArray, rs.length]; exact z2) fun h₃ l₃ s₃ => ?_
  have b₃ : ∀ b o, b ≠ ad x → s₂.heap.get? b = some o → h₃.get? b = some o := fun b o hb e => s₃.extBut b o hb e
  refine f (.next _) _ _ p ((k₁.trans k₂).mo.trans .heap) ⟨rfl, O, m, ad, J.changed (pl' := false) (vs' := vs.set j.toNat v) hx b₃ ?_ ((rs.set j.toNat (r.keeps k₂.kp)).butOwn ea ca oO b₃)⟩
  have e3 : (vs.toArray.setIfInBounds j.toNat v) = (vs.set j.toNat v).toArray := by simp
  rw [e3] at l₃
  exact l₃
theorem ex_append {x : Str} {xp ap cp pos : Pos} {ds : List PyData} {e : Expr} (hx : ρ.lookup x = some (.own true ds)) (hn : ds.length ≤ 2 ^ 20)
    (g : EV W A env ρ e fun d => P (.next ((x, .own true (ds ++ [d])) :: ρ)))
    (he : starEach [e] env = [(false, eval e env)] := by rfl) (hd : (x == ("__debug__" : Str)) = false := by decide)
    (hm : ∃ pl : Sem Bool, eval (.Call (.Attribute (.Name x xp) "append" ap) [e] [] cp) env = (do
      let ov ← eval (.Name x xp) env
      standAt ap.atName
      let (f, first) ← holding [ov] (getMethod ov "append" pl)
      callWith cp f first (backTo cp (starEach [e] env)) []) := by exact ⟨_, rfl⟩)
    (hi : interactive env = false := by rfl) : EX1 W A env ρ (.Expr (.Call (.Attribute (.Name x xp) "append" ap) [e] [] cp) pos) P := by
  intro k O₀ s I Q E f
  obtain ⟨O, m, ad, I⟩ := I
  refine wpAny_Expr ?_ hi rfl
  obtain ⟨plb, hm⟩ := hm
  refine MethodCall_ (pl := plb) ?_ hm
  refine load_own I hx hd ?_
  obtain ⟨vs, n, oO, nO, kn, l, rs⟩ := I.ow x true ds hx
  obtain ⟨n₀, e₀⟩ := id l
  refine getMethod_list_append e₀ rfl rfl ?_
  rw [he]
  refine callWith_builtin rfl (evalArgs_plain (spliced_cons (g s O m I.rd _ _ fun v d s₁ k₁ r p => spliced_nil ?_)))
  have J := I.keeps k₁.kp
  obtain ⟨vs, n, oO, nO, kn, l, rs⟩ := J.ow x true ds hx
  obtain ⟨oa, ea, ca, na, da⟩ := LsB.isList l
  refine wpAny_list_append_plain l (fun h₃ l₃ s₃ => ?_) (by rw [List.size_toArray, rs.length, sizeLine_eq]; omega)
  have b₃ : ∀ b o, b ≠ ad x → s₁.heap.get? b = some o → h₃.get? b = some o := fun b o hb e => s₃.extBut b o hb e
  have e3 : vs.toArray.push v = (vs ++ [v]).toArray := by simp
  rw [e3] at l₃
  exact f (.next _) _ _ p (k₁.mo.trans .heap) ⟨rfl, O, m, ad, J.changed (pl' := true) (vs' := vs ++ [v]) hx b₃ l₃ ((rs.append (.cons r .nil)).butOwn ea ca oO b₃)⟩
/-! ### several names at once -/
theorem rpAll_two {O : Addr → Prop} {h : Heap} {vs : List Value} {d₁ d₂ : PyData} (r : RpAll O h vs [d₁, d₂]) : ∃ v₁ v₂, vs = [v₁, v₂] ∧ Rp O h v₁ d₁ ∧ Rp O h v₂ d₂ := by
  match vs, r with
  | [], ⟨_, _, r, _⟩ => cases r
  | [_], r => obtain ⟨_, _, q, _⟩ := r.tail; cases q
  | [v₁, v₂], r => exact ⟨v₁, v₂, rfl, r.head, r.tail.head⟩
  | _ :: _ :: _ :: _, r => obtain ⟨_, _, q, _⟩ := r.tail.tail; cases q
/-- a, b = (x, y): the stores go from behind -/
theorem ex_pair_swapped {a b : Str} {ap bp tp vp pos : Pos} {k1 k2 : Nat} {x y : Expr} (hh : A.handled = none) (ha : Stb env a) (hb : Stb env b)
    (g : EVs W A env ρ [x, y] fun ds => match ds with | [d₁, d₂] => P (.next ((a, .sh d₁) :: (b, .sh d₂) :: ρ)) | _ => False)
    (hs : swapsWithSole [.Tuple [.Name a ap, .Name b bp] k1 tp] (.Tuple [x, y] k2 vp) pos.line env = pure false := by rfl)
    (hw : swappedStores [.Tuple [.Name a ap, .Name b bp] k1 tp] (.Tuple [x, y] k2 vp) env = pure (some [a, b]) := by rfl) :
    EX1 W A env ρ (.Assign [.Tuple [.Name a ap, .Name b bp] k1 tp] (.Tuple [x, y] k2 vp) pos) P := by
  intro k O₀ s I Q E f
  obtain ⟨O, m, ad, I⟩ := I
  refine Assign_Tuple_swapped (names := [a, b]) ?_ hs hw
  refine wpAny_Tuple (g s O m I.rd vp _ _ fun vs ds s₁ k₁ r p => ?_)
  match ds, p with
  | [d₁, d₂], p =>
  obtain ⟨v₁, v₂, rfl, r₁, r₂⟩ := rpAll_two r
  refine ⟨by rw [sizeLine_eq]; show 2 ≤ 16777216; decide, ?_⟩
  refine unpackItems_tuple (items := #[v₁, v₂]) hh ⟨_, Heap.get?_push_size _ rfl, rfl, _, rfl⟩ fun h₂ e₂ => ?_
  have k₂ : Kp s₁.heap h₂ := fun b o e => e₂ b o (fun q => by
    have lt := Heap.lt_size e
    have q' : b = (s₁.heap.push _).objs.size := q
    rw [q', Heap.size_push] at lt
    exact absurd lt (Nat.not_lt.mpr (Nat.le_succ _))) (Heap.get?_push_of_some _ e)
  have J := (I.keeps k₁.kp).keeps k₂
  show wpAny _ A (assignInOrder [bindName env b, bindName env a] [v₂, v₁]) _ _ _
  unfold assignInOrder
  refine wpAny_bind (wpAny_holding (bindName_ (st_core J hb fun h₃ t₃ m₃ T S => ?_)))
  have J₃ := J.stored S (r₂.keeps k₂)
  have r₁' : Rp O h₃ v₁ d₁ := by
    obtain ⟨oT, hT, nT⟩ := S.nos
    exact (r₁.keeps k₂).butNs hT nT S.but
  unfold assignInOrder
  refine wpAny_bind (wpAny_holding (bindName_ (st_core J₃ ha fun h₄ t₄ m₄ T₄ S₄ => ?_)))
  unfold assignInOrder
  exact wpAny_pure (f (.next _) _ _ p (k₁.mo.trans (Mo.trans .heap (Mo.trans .of .of))) ⟨rfl, O, m₄, ad, J₃.stored S₄ r₁'⟩)
/-- a, b = e, e no written tuple -/
theorem ex_pair {a b : Str} {ap bp tp pos : Pos} {k1 : Nat} {e : Expr} (hh : A.handled = none) (ha : Stb env a) (hb : Stb env b)
    (g : EV W A env ρ e fun d => match d with | .tuple [d₁, d₂] => P (.next ((b, .sh d₂) :: (a, .sh d₁) :: ρ)) | _ => False)
    (hs : swapsWithSole [.Tuple [.Name a ap, .Name b bp] k1 tp] e pos.line env = pure false := by rfl)
    (hw : swappedStores [.Tuple [.Name a ap, .Name b bp] k1 tp] e env = pure none := by rfl) :
    EX1 W A env ρ (.Assign [.Tuple [.Name a ap, .Name b bp] k1 tp] e pos) P := by
  intro k O₀ s I Q E f
  obtain ⟨O, m, ad, I⟩ := I
  refine Assign_Tuple (g s O m I.rd _ _ fun v d s₁ k₁ r p => ?_) hs hw
  match d, r, p with
  | .tuple [d₁, d₂], r, p =>
  obtain ⟨t, vs, rfl, ht, rs⟩ := r.tuple_inv
  obtain ⟨v₁, v₂, rfl, r₁, r₂⟩ := rpAll_two rs
  show wpAny _ A (do standAt tp; unpack (.ref t) (assignEach [.Name a ap, .Name b bp] env)) _ _ _
  refine wpAny_bind (wpAny_standAt ?_)
  show wpAny _ A (do assignInOrder [assign (.Name a ap) env, assign (.Name b bp) env] (← holding [Value.ref t] (unpackItems (.ref t) 2 none))) _ _ _
  refine wpAny_bind (wpAny_holding (unpackItems_tuple (items := #[v₁, v₂]) hh ht fun h₂ e₂ => ?_))
  have k₂ : Kp s₁.heap h₂ := fun b o e => e₂ b o (Nat.ne_of_lt (Heap.lt_size e)) e
  have J := (I.keeps k₁.kp).keeps k₂
  show wpAny _ A (assignInOrder [assign (.Name a ap) env, assign (.Name b bp) env] [v₁, v₂]) _ _ _
  unfold assignInOrder
  refine wpAny_bind (wpAny_holding (wpAny_assign_Name (st_core J ha fun h₃ t₃ m₃ T S => ?_)))
  have J₃ := J.stored S (r₁.keeps k₂)
  have r₂' : Rp O h₃ v₂ d₂ := by
    obtain ⟨oT, hT, nT⟩ := S.nos
    exact (r₂.keeps k₂).butNs hT nT S.but
  unfold assignInOrder
  refine wpAny_bind (wpAny_holding (wpAny_assign_Name (st_core J₃ hb fun h₄ t₄ m₄ T₄ S₄ => ?_)))
  unfold assignInOrder
  exact wpAny_pure (f (.next _) _ _ p (k₁.mo.trans (Mo.trans .heap (Mo.trans .of .of))) ⟨rfl, O, m₄, ad, J₃.stored S₄ r₂'⟩)
end
end Mine

set_option maxRecDepth 100000
set_option autoImplicit false
set_option linter.unusedVariables false
namespace Mine
open PySem PySem.Calls PyProof.Rows PySem.Spec
/-- iterating over ints, by objects that are all new -/
def ITn (W : Wd) (A : Around) (env : Env) (ρ : Store) (iter : Expr) (P : List PyData → Prop) : Prop :=
  ∀ (s : Shared) (O : Addr → Prop) (m : Str → Option Value), Rd W env ρ O m s.heap → ∀ (K E : Value → Shared → Prop),
    (∀ I fp ds Pv St s', Mv s s' → (∀ b ∈ fp, s.heap.get? b = none) → Walks W.prog W.w A I fp [I] ds.length Pv St → St 0 s'.heap → (∀ i h, St i h → ∀ b ∈ fp, ∃ o, h.get? b = some o) → (∀ i h, St i h → ∃ o, h.get? I = some o ∧ ∀ vs k, o.data ≠ .seq vs k) →
      (∀ i v d, ds[i]? = some d → Pv i v → ∀ O h, Rp O h v d) → P ds → K (.ref I) s') →
    wpAny (model W.prog W.w) A (eval iter env) (fun x s₁ => wpAny (model W.prog W.w) A (pyIter x) K E s₁) E s
section
variable {W : Wd} {A : Around} {env : Env} {ρ : Store} {P P' : Out → Prop} {k : Addr → Option Obj} {O₀ O : Addr → Prop} {m : Str → Option Value} {ad : Str → Addr} {h h' : Heap}
theorem itn_core {a b : Int} {t u v : Tok} {s s₁ : Shared} {r : Addr} {P : List PyData → Prop} {K E : Value → Shared → Prop} (hh : A.handled = none) (k₁ : Mv s s₁) (hr : IsRange s₁.heap r a b 1 t u v) (ha : -(2 ^ 20) ≤ a) (hb : b ≤ 2 ^ 20) (hb' : -(2 ^ 60) ≤ b) (ha' : a ≤ 2 ^ 20)
    (p : P (rangeL a b))
    (f : ∀ I fp ds Pv St s', Mv s s' → (∀ b ∈ fp, s.heap.get? b = none) → Walks W.prog W.w A I fp [I] ds.length Pv St → St 0 s'.heap → (∀ i h, St i h → ∀ b ∈ fp, ∃ o, h.get? b = some o) → (∀ i h, St i h → ∃ o, h.get? I = some o ∧ ∀ vs k, o.data ≠ .seq vs k) →
      (∀ i v d, ds[i]? = some d → Pv i v → ∀ O h, Rp O h v d) → P ds → K (.ref I) s') :
    wpAny (model W.prog W.w) A (pyIter (.ref r)) K E s₁ := by
  refine wpAny_pyIter_range hr (small_one (by omega) (by omega) (by omega) (by omega)) ?_
  have Wk := Walks.range (prog := W.prog) (w := W.w) hh s₁.heap.objs.size a 1 (b - a).toNat
  rw [← rangeL_length] at Wk
  refine f s₁.heap.objs.size _ (rangeL a b) _ _ _ (k₁.trans .new) (fun b hb => by rw [List.mem_singleton.mp hb]; exact k₁.kp.none (get_none_of_size _)) Wk ?_ (fun i h st b hb => by rw [List.mem_singleton.mp hb]; exact ⟨_, st⟩) (fun i h st => ⟨_, st, fun vs k q => by cases q⟩) (fun i v d hd hv O h => range_items hd hv) p
  show Heap.get? _ _ = some _
  rw [Heap.get?_push_size _ rfl]
  have e : Builtin.Range.rangeSize a b 1 = ((rangeL a b).length : Int) := by
    rw [rangeL_length, rangeSize_one]; split <;> omega
  rw [e]
  simp
theorem itn_range1 {gp pos : Pos} {e : Expr} {P : List PyData → Prop} (hh : A.handled = none) (hg : W.Gl "range" (.type "range")) (h : EV W A env ρ e fun d => match d with | .int n => -(2 ^ 20) ≤ n ∧ n ≤ 2 ^ 20 ∧ P (rangeL 0 n) | _ => False)
    (hk : env.kindOf "range" = some .globalImplicit := by rfl) (he : starEach [e] env = [(false, eval e env)] := by rfl) : ITn W A env ρ (.Call (.Name "range" gp) [e] [] pos) P := by
  intro s O m R K E f
  refine wpAny_Call_NameR (gname R hg hk ?_ (by decide))
  rw [he]
  refine PySem.callWith_type rfl (evalArgs_plain (spliced_cons (h s O m R _ _ fun v d s₁ k₁ r p => spliced_nil ?_)))
  cases d <;> try exact p.elim
  obtain ⟨t, rfl⟩ := r.int_inv
  refine call_range_1 ?_
  exact itn_core (s := s) hh (k₁.trans (.of (Kp.push _ _))) (IsRange.new ..) (by decide) p.2.1 (by have := p.1; omega) (by decide) p.2.2 f
theorem itn_range2 {gp pos : Pos} {e e' : Expr} {P : List PyData → Prop} (hh : A.handled = none) (hg : W.Gl "range" (.type "range")) (h : EV W A env ρ e fun d => EV W A env ρ e' fun d' => match d, d' with | .int a, .int b => 0 ≤ a ∧ a ≤ 2 ^ 20 ∧ -(2 ^ 20) ≤ b ∧ b ≤ 2 ^ 20 ∧ P (rangeL a b) | _, _ => False)
    (hk : env.kindOf "range" = some .globalImplicit := by rfl) (he : starEach [e, e'] env = [(false, eval e env), (false, eval e' env)] := by rfl) : ITn W A env ρ (.Call (.Name "range" gp) [e, e'] [] pos) P := by
  intro s O m R K E f
  refine wpAny_Call_NameR (gname R hg hk ?_ (by decide))
  rw [he]
  refine PySem.callWith_type rfl (evalArgs_plain (spliced_cons (h s O m R _ _ fun v d s₁ k₁ r p => spliced_cons (p _ O m (R.keeps k₁.kp) _ _ fun v' d' s₂ k₂ r' z => spliced_nil ?_))))
  cases d <;> cases d' <;> try exact z.elim
  obtain ⟨t, rfl⟩ := r.int_inv
  obtain ⟨u, rfl⟩ := r'.int_inv
  dsimp only at z
  refine call_range_2 ?_
  exact itn_core (s := s) hh ((k₁.trans k₂).trans (.of (Kp.push _ _))) (IsRange.new ..) (by omega) (by omega) (by omega) (by omega) z.2.2.2.2 f
/-- a written tuple of ints -/
theorem itn_tuple {es : List Expr} {kk : Nat} {pos : Pos} {P : List PyData → Prop} {is : List Int} (hh : A.handled = none) (h : EVs W A env ρ es fun ds => ds = is.map .int ∧ is.length ≤ 100 ∧ P ds) : ITn W A env ρ (.Tuple es kk pos) P := by
  intro s O m R K E f
  refine wpAny_Tuple (h s O m R pos _ _ fun vs ds s₁ k₁ r p => ?_)
  obtain ⟨rfl, hn, p⟩ := p
  have hlen : vs.length = is.length := by rw [r.length, List.length_map]
  refine ⟨by rw [hlen, sizeLine_eq]; omega, ?_⟩
  have ht : (s₁.heap.push { cls := .type "tuple", data := .seq vs.toArray }).IsTuple s₁.heap.objs.size vs.toArray := ⟨_, Heap.get?_push_size _ rfl, rfl, _, rfl⟩
  refine wpAny_pyIter_tuple ht ?_
  have hsz : (s₁.heap.push { cls := .type "tuple", data := .seq vs.toArray }).objs.size = s₁.heap.objs.size + 1 := Heap.size_push ..
  have Wk := Walks.tuple (prog := W.prog) (w := W.w) hh (s₁.heap.push { cls := .type "tuple", data := .seq vs.toArray }).objs.size s₁.heap.objs.size (by rw [hsz]; exact Nat.ne_of_lt (Nat.lt_succ_self _)) vs.toArray
  have en : vs.toArray.size = (is.map PyData.int).length := by rw [List.size_toArray, hlen, List.length_map]
  rw [en] at Wk
  have k₂ := Kp.push s₁.heap { cls := .type "tuple", data := .seq vs.toArray }
  refine f _ _ (is.map .int) _ _ _ (k₁.trans (Mv.trans .new .new)) ?_ Wk ⟨⟨_, Heap.get?_push_size _ rfl, rfl, rfl⟩, ht.push _⟩ ?_ ?_ ?_ p
  · intro b hb
    rcases List.mem_cons.mp hb with rfl | hb
    · exact (k₁.kp.trans k₂).none (get_none_of_size _)
    · rw [List.mem_singleton.mp hb]; exact k₁.kp.none (get_none_of_size _)
  · intro i h st b hb
    rcases List.mem_cons.mp hb with rfl | hb
    · obtain ⟨⟨o, e, _⟩, _⟩ := st; exact ⟨o, e⟩
    · rw [List.mem_singleton.mp hb]; obtain ⟨_, o, e, _⟩ := st; exact ⟨o, e⟩
  · intro i h st
    obtain ⟨⟨o, e, _, d⟩, _⟩ := st
    exact ⟨o, e, fun vs k q => by rw [d] at q; cases q⟩
  · intro i v d hd hv O' h'
    obtain ⟨v', hv', rv⟩ := r.get hd
    have hv2 : vs[i]? = some v := by simpa using hv
    rw [hv2] at hv'; cases hv'
    rw [List.getElem?_map] at hd
    obtain ⟨j, _, rfl⟩ := Option.map_eq_some_iff.mp hd
    obtain ⟨t, rfl⟩ := rv.int_inv
    exact .int _ _
/-! ### for -/
theorem InvC.withK {fp : List Addr} (I : InvC W k O₀ env ρ O m ad h) (hL : env.locals ∉ fp) (hc : ∀ y c, env.cells.lookup y = some c → c ∉ fp) (hO : ∀ a ∈ fp, ¬ O a) (hk : ∀ a ∈ fp, k a = none) :
    InvC W (fun b => if b ∈ fp then h.get? b else k b) O₀ env ρ O m ad h where
  rd := I.rd
  sub := I.sub
  kb := fun b o e => by
    have q := I.kb b o e
    by_cases hb : b ∈ fp
    · rw [hk b hb] at q; cases q
    · simp only [if_neg hb]; exact q
  kk := fun b o e => by
    by_cases hb : b ∈ fp
    · simp only [if_pos hb] at e; exact e
    · simp only [if_neg hb] at e; exact I.kk b o e
  kl := by simp only [if_neg hL]; exact I.kl
  kc := fun x c hm => by simp only [if_neg (hc x c hm)]; exact I.kc x c hm
  ap := I.ap
  ow := fun x pl ds e => by
    obtain ⟨vs, a, b, c, d, l, r⟩ := I.ow x pl ds e
    exact ⟨vs, a, b, c, by simp only [if_neg fun q => hO _ q b]; exact d, l, r⟩
  okk := fun a q => by simp only [if_neg fun z => hO _ z q]; exact I.okk a q
  inj := I.inj
theorem InvC.backK {fp : List Addr} {h₁ : Heap} (I : InvC W (fun b => if b ∈ fp then h₁.get? b else k b) O₀ env ρ O m ad h) (hk : ∀ a ∈ fp, k a = none) (hkb : ∀ b o, W.base.get? b = some o → k b = some o) : InvC W k O₀ env ρ O m ad h where
  rd := I.rd
  sub := I.sub
  kb := hkb
  kk := fun b o e => I.kk b o (by
    by_cases hb : b ∈ fp
    · rw [hk b hb] at e; cases e
    · simp only [if_neg hb]; exact e)
  kl := by
    by_cases hb : env.locals ∈ fp
    · exact hk _ hb
    · have := I.kl; simp only [if_neg hb] at this; exact this
  kc := fun x c hm => by
    refine ⟨?_, (I.kc x c hm).2⟩
    by_cases hb : c ∈ fp
    · exact hk _ hb
    · have := (I.kc x c hm).1; simp only [if_neg hb] at this; exact this
  ap := I.ap
  ow := fun x pl ds e => by
    obtain ⟨vs, a, b, c, d, l, r⟩ := I.ow x pl ds e
    refine ⟨vs, a, b, c, ?_, l, r⟩
    by_cases hb : ad x ∈ fp
    · exact hk _ hb
    · simp only [if_neg hb] at d; exact d
  okk := fun a q => by
    by_cases hb : a ∈ fp
    · exact .inr (hk _ hb)
    · have := I.okk a q; simp only [if_neg hb] at this; exact this
  inj := I.inj
/-- what a turn may come to -/
def Turn (P : Out → Prop) (J : Store → Prop) : Out → Prop
  | .next ρ => J ρ
  | .cont ρ => J ρ
  | .brk ρ => P (.next ρ)
  | .ret d => P (.ret d)
  | .reto ds => P (.reto ds)
theorem ex_for {x : Str} {xp pos : Pos} {iter : Expr} {body : List Stmt} (hx : Stb env x)
    (hi : ITn W A env ρ iter fun ds => ∃ J : Nat → Store → Prop, J 0 ρ ∧ (∀ i d ρ', ds[i]? = some d → J i ρ' → EX W A env ((x, .sh d) :: ρ') body (Turn P (J (i + 1)))) ∧ (∀ ρ', J ds.length ρ' → P (.next ρ')))
    (hs : ∀ x, foldedSetIterable iter env x = pure x := by intro _; rfl) : EX1 W A env ρ (.For (.Name x xp) iter body [] pos) P := by
  intro k O₀ s I Q E f
  obtain ⟨O, m, ad, I⟩ := I
  refine wpAny_For (hi s O m I.rd _ _ fun It fp ds Pv St s₁ k₁ hfp Wk st hEx hIs hit p => ?_) hs
  obtain ⟨J, j0, turn, done⟩ := p
  have kfp : ∀ a ∈ fp, k a = none := fun a ha => I.kfresh (hfp a ha)
  have Lfp : env.locals ∉ fp := fun q => by
    obtain ⟨o, _, _, e, _⟩ := I.rd.ns
    rw [hfp _ q] at e; cases e
  have cfp : ∀ y c, env.cells.lookup y = some c → c ∉ fp := fun y c hm q => by
    obtain ⟨v, o, e, _⟩ := (I.kc y c hm).2
    rw [hfp _ q] at e; cases e
  have O₀fp : ∀ a ∈ fp, ¬ O₀ a := fun a ha q => by
    obtain ⟨o, e⟩ := I.rd.al a (I.sub a q)
    rw [hfp _ ha] at e; cases e
  have Ifp : It ∈ fp := Wk.sub It List.mem_cons_self
  refine codeAny_forLoop (fun n s' => ∃ i ρ' O m ad, Mo s s' ∧ i ≤ ds.length ∧ n = ds.length + 1 - i ∧ St i s'.heap ∧ J i ρ' ∧ InvC W k O₀ env ρ' O m ad s'.heap ∧ ∀ a ∈ fp, ¬ O a) ?_ (ds.length + 1)
    ⟨0, ρ, O, m, ad, k₁.mo, Nat.zero_le _, rfl, st, j0, I.keeps k₁.kp, fun a ha q => I.rd.fresh (hfp a ha) q⟩
  rintro n s' ⟨i, ρ', O', m', ad', sm, hi', rfl, hst', hj, I', O'fp⟩
  obtain ⟨oI, eI, nI⟩ := hIs i s'.heap hst'
  by_cases hlt : i < ds.length
  · have hd : ds[i]? = some ds[i] := List.getElem?_eq_getElem hlt
    generalize ds[i] = d at hd
    refine Wk.item i _ _ _ hlt hst' fun v h₂ t₂ hPv hst₂ hk₂ => ?_
    have b₂ : ∀ b o, b ≠ It → s'.heap.get? b = some o → h₂.get? b = some o := fun b o hb e => hk₂ b o (by simpa using hb) e
    have I₂ := I'.butNs ⟨oI, eI, nI⟩ (kfp It Ifp) (fun q => Lfp (q ▸ Ifp)) (fun y c hm q => cfp y c hm (q ▸ Ifp)) (O'fp It Ifp) b₂
    have I₂' := I₂.withK Lfp cfp O'fp kfp
    refine wpAny_assign_Name (st_core I₂' hx fun h₃ t₃ m₃ T S => ?_)
    have I₃ := I₂'.stored S (hit i v d hd hPv O' h₂)
    have st₃ : St (i + 1) h₃ := Wk.frame _ _ _ hst₂ fun b hb o e => S.but b o (fun q => by
      rcases S.wh with w | ⟨y, w⟩
      · exact Lfp (w ▸ q ▸ hb)
      · exact cfp y T w (q ▸ hb)) e
    have toK : ∀ ρ'' (s'' : Shared), Inv W (fun b => if b ∈ fp then h₂.get? b else k b) O₀ env ρ'' s'' → St (i + 1) s''.heap ∧ ∃ O m ad, InvC W k O₀ env ρ'' O m ad s''.heap ∧ ∀ a ∈ fp, ¬ O a := by
      rintro ρ'' s'' ⟨O₄, m₄, ad₄, I₄⟩
      refine ⟨Wk.frame _ _ _ hst₂ fun b hb o e => I₄.kk b o (by simp only [if_pos hb]; exact e), O₄, m₄, ad₄, I₄.backK kfp I.kb, fun a ha q => ?_⟩
      rcases I₄.okk a q with z | z
      · exact O₀fp a ha z
      · simp only [if_pos ha] at z
        obtain ⟨o, e⟩ := hEx (i + 1) h₂ hst₂ a ha
        rw [e] at z; cases z
    have kret : ∀ s'' : Shared, (∀ b o, (fun b => if b ∈ fp then h₂.get? b else k b) b = some o → s''.heap.get? b = some o) → ∀ b o, k b = some o → s''.heap.get? b = some o := fun s'' q b o e => q b o (by
      have hb : b ∉ fp := fun z => by rw [kfp b z] at e; cases e
      simp only [if_neg hb]; exact e)
    refine turn i d ρ' hd hj _ O₀ _ ⟨O', m₃, ad', I₃⟩ _ _ fun o fl s₄ p sm₄ g => ?_
    have smm : Mo s s₄ := (sm.trans (Mo.trans .of .of)).trans sm₄
    cases o with
    | next ρ'' =>
      obtain ⟨rfl, I₄⟩ := g
      obtain ⟨st₄, O₄, m₄, ad₄, I₄, z⟩ := toK _ _ I₄
      exact ⟨ds.length + 1 - (i + 1), by omega, i + 1, ρ'', O₄, m₄, ad₄, smm, hlt, rfl, st₄, p, I₄, z⟩
    | cont ρ'' =>
      obtain ⟨rfl, I₄⟩ := g
      obtain ⟨st₄, O₄, m₄, ad₄, I₄, z⟩ := toK _ _ I₄
      exact ⟨ds.length + 1 - (i + 1), by omega, i + 1, ρ'', O₄, m₄, ad₄, smm, hlt, rfl, st₄, p, I₄, z⟩
    | brk ρ'' =>
      obtain ⟨rfl, I₄⟩ := g
      obtain ⟨st₄, O₄, m₄, ad₄, I₄, z⟩ := toK _ _ I₄
      exact f (.next ρ'') _ _ p smm ⟨rfl, O₄, m₄, ad₄, I₄⟩
    | ret d =>
      obtain ⟨v, rfl, g1, g2⟩ := g
      exact f (.ret d) _ _ p smm ⟨v, rfl, kret _ g1, g2⟩
    | reto es =>
      obtain ⟨D, vs, rfl, g1, g2, g3⟩ := g
      refine f (.reto es) _ _ p smm ⟨D, vs, rfl, kret _ g1, ?_, g3⟩
      by_cases hb : D ∈ fp
      · exact kfp D hb
      · simp only [if_neg hb] at g2; exact g2
  · obtain rfl : i = ds.length := Nat.le_antisymm hi' (Nat.not_lt.mp hlt)
    refine Wk.done _ _ _ hst' fun h₂ t₂ hk₂ => ?_
    have b₂ : ∀ b o, b ≠ It → s'.heap.get? b = some o → h₂.get? b = some o := fun b o hb e => hk₂ b o (by simpa using hb) e
    have I₂ := I'.butNs ⟨oI, eI, nI⟩ (kfp It Ifp) (fun q => Lfp (q ▸ Ifp)) (fun y c hm q => cfp y c hm (q ▸ Ifp)) (O'fp It Ifp) b₂
    exact wpAny_execs_nil (f (.next ρ') _ _ (done ρ' hj) (sm.trans .of) ⟨rfl, O', m', ad', I₂⟩)
/-! ### entering a def -/
theorem bindL_miss {kd : Str → Option NameKind} {x : Str} : ∀ {bs : List (Str × Value)} {m : Str → Option Value}, x ∉ bs.map (·.1) → bindL kd bs m x = m x
  | [], _, _ => rfl
  | (n, v) :: r, m, hx => by
    unfold bindL
    rw [bindL_miss (fun q => hx (List.mem_cons_of_mem _ q))]
    have hne : x ≠ n := fun q => hx (by rw [q]; exact List.mem_cons_self)
    split
    · simp [hne]
    · rfl
theorem bindC_miss {kd : Str → Option NameKind} {x : Str} : ∀ {bs : List (Str × Value)} {m : Str → Option Value}, x ∉ bs.map (·.1) → bindC kd bs m x = m x
  | [], _, _ => rfl
  | (n, v) :: r, m, hx => by
    unfold bindC
    rw [bindC_miss (fun q => hx (List.mem_cons_of_mem _ q))]
    have hne : x ≠ n := fun q => hx (by rw [q]; exact List.mem_cons_self)
    split
    · rfl
    · simp [hne]
theorem bindL_hit {kd : Str → Option NameKind} {x : Str} {v : Value} (hk : kd x = some .local) : ∀ {bs : List (Str × Value)} {m : Str → Option Value}, (bs.map (·.1)).Nodup → bs.lookup x = some v → bindL kd bs m x = some v
  | [], _, _, h => by cases h
  | (n, w) :: r, m, hn, h => by
    have hn' := List.nodup_cons.mp hn
    unfold bindL
    by_cases q : x = n
    · subst q
      rw [List.lookup_cons, beq_self_eq_true] at h; cases h
      rw [bindL_miss hn'.1, if_pos hk]; simp
    · rw [List.lookup_cons, beq_eq_false_iff_ne.mpr q] at h
      exact bindL_hit hk hn'.2 h
theorem bindC_hit {kd : Str → Option NameKind} {x : Str} {v : Value} (hk : kd x = some .cell) : ∀ {bs : List (Str × Value)} {m : Str → Option Value}, (bs.map (·.1)).Nodup → bs.lookup x = some v → bindC kd bs m x = some v
  | [], _, _, h => by cases h
  | (n, w) :: r, m, hn, h => by
    have hn' := List.nodup_cons.mp hn
    unfold bindC
    by_cases q : x = n
    · subst q
      rw [List.lookup_cons, beq_self_eq_true] at h; cases h
      rw [bindC_miss hn'.1, if_neg (by rw [hk]; decide)]; simp
    · rw [List.lookup_cons, beq_eq_false_iff_ne.mpr q] at h
      exact bindC_hit hk hn'.2 h
theorem cells_some {x : Str} : ∀ (names : List (Str × NameKind)) (n : Nat) (acc : List (Str × Addr)), names.lookup x = some .cell ∨ (acc.lookup x).isSome = true → ((cellsFrom n names acc).lookup x).isSome = true
  | [], _, _, h => h.elim (fun e => by cases e) id
  | (y, kd) :: r, n, acc, h => by
    unfold cellsFrom
    by_cases hk : (kd == NameKind.cell) = true
    · rw [if_pos hk]
      refine cells_some r _ _ ?_
      by_cases q : x = y
      · subst q; exact .inr (by rw [List.lookup_cons, beq_self_eq_true]; rfl)
      · rw [List.lookup_cons, beq_eq_false_iff_ne.mpr q] at h
        rw [List.lookup_cons, beq_eq_false_iff_ne.mpr q]
        exact h
    · rw [if_neg hk]
      refine cells_some r _ _ ?_
      by_cases q : x = y
      · subst q
        rw [List.lookup_cons, beq_self_eq_true] at h
        rcases h with h | h
        · cases h; exact absurd rfl hk
        · exact .inr h
      · rw [List.lookup_cons, beq_eq_false_iff_ne.mpr q] at h
        exact h
structure DefOk (fd : FuncData) (body : List Stmt) (names : List Str) : Prop where
  body_ : fd.body = .stmts body
  clos : fd.closure = []
  gl : fd.globals = mainGlobals
  bi : fd.builtins = builtinsNs
  co : fd.scope.isCoroutine = false
  gen : fd.scope.isGenerator = false
  kind : fd.scope.kind = .function
  bind : ∀ vs, vs.length = names.length → bindArgs fd ⟨vs, []⟩ = pure (names.zip vs)
  nd : names.Nodup
  kn : ∀ x ∈ names, fd.scope.names.lookup x = some .local ∨ fd.scope.names.lookup x = some .cell
theorem zip_lookup {O : Addr → Prop} {h : Heap} {x : Str} {sl : Slot} : ∀ {names : List Str} {vs : List Value} {ds : List PyData}, RpAll O h vs ds → (names.zip (ds.map Slot.sh)).lookup x = some sl → ∃ v d, sl = .sh d ∧ (names.zip vs).lookup x = some v ∧ Rp O h v d ∧ x ∈ names
  | [], _, _, _, e => by cases e
  | _ :: _, [], [], _, e => by cases e
  | _ :: _, [], _ :: _, ⟨_, _, r, _⟩, _ => by cases r
  | _ :: _, _ :: _, [], ⟨_, _, r, _⟩, _ => by cases r
  | n :: ns, v :: vs, d :: ds, r, e => by
    rw [List.map_cons, List.zip_cons_cons] at e
    by_cases q : x = n
    · subst q
      rw [lookup_self] at e; cases e
      exact ⟨v, d, rfl, by rw [List.zip_cons_cons, List.lookup_cons, beq_self_eq_true], r.head, List.mem_cons_self⟩
    · rw [lookup_ne q] at e
      obtain ⟨w, d', e1, e2, e3, e4⟩ := zip_lookup r.tail e
      exact ⟨w, d', e1, by rw [List.zip_cons_cons, List.lookup_cons, beq_eq_false_iff_ne.mpr q]; exact e2, e3, List.mem_cons_of_mem _ e4⟩
theorem zip_names : ∀ (names : List Str) (vs : List Value), vs.length = names.length → (names.zip vs).map (·.1) = names
  | [], _, _ => by simp
  | n :: ns, [], e => by cases e
  | n :: ns, v :: vs, e => by rw [List.zip_cons_cons, List.map_cons, zip_names ns vs (by simpa using e)]
theorem call_enter {n : Nat} {f : Addr} {fd : FuncData} {body : List Stmt} {names : List Str} {ds : List PyData} {A : Around} {s : Shared} {vs : List Value} {Q E : Value → Shared → Prop} (hf : W.Fun f fd) (ok : DefOk fd body names) (hlen : ds.length = names.length) (rm : Rm (n + 1) A) (kb : Kp W.base s.heap) (al : ∀ a, O a → ∃ o, s.heap.get? a = some o) (r : RpAll O s.heap vs ds)
    (h : ∀ s₁, Mo s s₁ → Inv W (fun b => s.heap.get? b) O (callEnvC fd s.heap.objs.size f) (names.zip (ds.map .sh)) s₁ → ∀ E', wpAny (model W.prog W.w) (A.deeper (callEnvC fd s.heap.objs.size f)) (execs body (callEnvC fd s.heap.objs.size f)) (fun fl s' => Q (match fl with | .ret v => v | _ => .none) s') E' s₁) :
    wpAny (model W.prog W.w) A (call (.ref f) vs) Q E s := by
  obtain ⟨o, ho, hd⟩ := hf.at_
  have hvl : vs.length = names.length := by rw [r.length, hlen]
  have hnd : ((names.zip vs).map (·.1)).Nodup := by rw [zip_names names vs hvl]; exact ok.nd
  refine wpAny_call (codeAny_call_cells (fd := fd) (body := body) (by have := rm.dp; omega) (kb _ _ ho) hd (hf.lim.keeps kb) (hf.cd.keeps kb) ok.body_ (ok.bind vs hvl) ok.clos ?_ (fun s₁ X => ?_) ok.co ok.gen ok.kind)
  · intro x hx
    have hm : x.1 ∈ names := by rw [← zip_names names vs hvl]; exact List.mem_map_of_mem hx
    rcases ok.kn x.1 hm with q | q
    · exact .inl q
    · exact .inr ⟨q, cells_some _ _ _ (.inl q)⟩
  · obtain ⟨h₁, t₁, rfl⟩ := X.toInCall.same
    have kp : Kp s.heap h₁ := X.toInCall.keep
    refine wpAny_mono (h _ .of ⟨O, bindL (callEnvC fd s.heap.objs.size f).kindOf (names.zip vs) fun _ => none, fun _ => (0 : Nat), ?_⟩ (fun e s' => wpAny (model W.prog W.w) (A.deeper (callEnvC fd s.heap.objs.size f)) (leaving (callEnvC fd s.heap.objs.size f) e) (fun _ s'' => E e s'') (fun e' s'' => E e' s'') s')) (fun fl s' q => q) fun _ _ e => e
    have none_ : ∀ (y : Str) (c : Addr), (callEnvC fd s.heap.objs.size f).cells.lookup y = some c → s.heap.get? c = none := fun y c hm => by
      have lt := X.above y c (mem_of_lookup hm)
      cases e : s.heap.get? c with
      | none => rfl
      | some o => exact absurd (Heap.lt_size e) (Nat.not_lt.mpr (Nat.le_of_lt lt))
    have cell_ : ∀ (y : Str) (c : Addr), (callEnvC fd s.heap.objs.size f).cells.lookup y = some c → ∃ v, h₁.IsCell c v := fun y c hm => ⟨_, X.cell y c hm⟩
    refine { rd := ⟨ok.kind, ok.gl, ok.bi, X.toInCall.ns, fun x d e => ?_, fun a q => let ⟨o, e⟩ := al a q; ⟨o, kp a o e⟩, kb.trans kp⟩, sub := fun _ q => q, kb := kb, kk := kp, kl := get_none_of_size _, kc := fun y c hm => ⟨none_ y c hm, cell_ y c hm⟩, ap := X.apart, ow := fun x pl ds e => ?_, okk := fun _ q => .inl q, inj := fun x y pl pe ds es e => ?_ }
    · obtain ⟨v, d', e1, e2, e3, e4⟩ := zip_lookup r e
      cases e1
      refine ⟨v, ?_, e3.keeps kp⟩
      rcases ok.kn x e4 with q | q
      · exact .inl ⟨q, bindL_hit q hnd e2⟩
      · have hs := cells_some fd.scope.names (s.heap.objs.size + 1) [] (.inl q)
        obtain ⟨c, hc⟩ := Option.isSome_iff_exists.mp hs
        have hcc := X.cell x c hc
        rw [bindC_hit q hnd e2] at hcc
        exact .inr ⟨q, c, hc, hcc⟩
    · obtain ⟨v, d', e1, _⟩ := zip_lookup r e
      cases e1
    · obtain ⟨v, d', e1, _⟩ := zip_lookup r e
      cases e1
theorem fn_of {n : Nat} {f : Addr} {fd : FuncData} {body : List Stmt} {names : List Str} {ds : List PyData} {P : PyData → Prop} (hf : W.Fun f fd) (ok : DefOk fd body names) (hlen : ds.length = names.length)
    (h : ∀ A L, Rm n A → EX W A (callEnvC fd L f) (names.zip (ds.map .sh)) body fun o => match o with | .ret d => P d | .next _ => P .none | _ => False) : FN W (n + 1) f ds P := by
  intro A s O vs rm kb al r Q E q
  refine call_enter hf ok hlen rm kb al r fun s₁ sm I E' => ?_
  refine h _ _ rm.deeper _ O s₁ I _ _ fun o fl s' p sm' g => ?_
  have mo := sm.trans sm'
  cases o with
  | ret d =>
    obtain ⟨v, rfl, g1, g2⟩ := g
    exact q v d s' (mo.mv g1) g2 p
  | next ρ' =>
    obtain ⟨rfl, O', m', ad', I'⟩ := g
    exact q _ .none s' (mo.mv I'.kk) Rp.none p
  | brk _ => exact p.elim
  | cont _ => exact p.elim
  | reto _ => exact p.elim
theorem fno_of {n : Nat} {f : Addr} {fd : FuncData} {body : List Stmt} {names : List Str} {ds : List PyData} {P : List PyData → Prop} (hf : W.Fun f fd) (ok : DefOk fd body names) (hlen : ds.length = names.length)
    (h : ∀ A L, Rm n A → EX W A (callEnvC fd L f) (names.zip (ds.map .sh)) body fun o => match o with | .reto d => P d | _ => False) : FNo W (n + 1) f ds P := by
  intro A s O vs rm kb al r Q E q
  refine call_enter hf ok hlen rm kb al r fun s₁ sm I E' => ?_
  refine h _ _ rm.deeper _ O s₁ I _ _ fun o fl s' p sm' g => ?_
  have mo := sm.trans sm'
  cases o with
  | reto es =>
    obtain ⟨D, vs', rfl, g1, g2, g3, g4, g5⟩ := g
    exact q D vs' es s' g2 (mo.mv g1) g4 g5 p
  | ret d => exact p.elim
  | next _ => exact p.elim
  | brk _ => exact p.elim
  | cont _ => exact p.elim
/-! ### a list of one item, many times -/
theorem evo_mul {l r : Expr} {pos : Pos} {P : List PyData → Prop} (x : EV W A env ρ l fun a => EV W A env ρ r fun b => match a, b with | .list [d], .int n => 0 ≤ n ∧ n ≤ 2 ^ 20 ∧ P (List.replicate n.toNat d) | _, _ => False) : EVo W A env ρ (.BinOp l .Mult r pos) P := by
  intro s O m R Q E f
  refine wpAny_BinOp (x s O m R _ _ fun va a s₁ k₁ ra y => ?_)
  refine y _ O m (R.keeps k₁.kp) _ _ fun vb b s₂ k₂ rb z => ?_
  match a, b, ra, rb, z with
  | .list [d], .int n, ra, rb, z =>
  obtain ⟨z1, z2, p⟩ := z
  obtain ⟨u, rfl⟩ := rb.int_inv
  obtain ⟨l, vs, rfl, hl, rs, _⟩ := (ra.keeps k₂.kp).list_inv
  have hv : ∃ v, vs = [v] ∧ Rp O s₂.heap v d := by
    match vs, rs with
    | [], ⟨_, _, r, _⟩ => cases r
    | [v], rs => exact ⟨v, rfl, rs.head⟩
    | _ :: _ :: _, rs => obtain ⟨_, _, q, _⟩ := rs.tail; cases q
  obtain ⟨v, rfl, rv⟩ := hv
  obtain ⟨⟨cls, dd, data, sl⟩, ho, hcl, k, hd⟩ := id hl
  simp only at hcl hd
  subst hcl hd
  have hsz' : ([v].toArray).size * n.toNat ≤ 2 ^ 24 := by simp; omega
  refine wpAny_binaryOp_repeat_ref (T := "list") (U := "int") (by decide) ⟨_, ho, rfl⟩ (fun s' => typeIs_int s' n u) noFill_list_mul PySem.F.fills_int_mul PySem.F.slot_int_rmul repeat_list PySem.F.slot_int_index.lookup
    (call_meets PySem.F.slot_int_rmul (typeIs_int _ n u) PySem.F.entry_int_rmul (PySem.F.args_int_rmul_2 _ _) (lm_int_rmul_list_any n u l [v].toArray k dd sl)
      ⟨ho, rfl, ⟨_, ho, rfl⟩, call_meets PySem.F.slot_list_mul ⟨_, ho, rfl⟩ PySem.F.entry_list_mul (PySem.F.args_list_mul_2 _ _)
        (lm_list_mul_any l [v].toArray k dd sl n u (by simp [Builtin.List.listFitsIndex]; omega) (by omega) (by simp [Builtin.List.listTooLong, sizeLine]; omega))
        ⟨ho, ?_⟩⟩)
  have e2 : List.foldl (fun x1 x2 => x1 ++ x2) #[] (List.replicate (if ([v].toArray).isEmpty = true then 0 else n.toNat) [v].toArray) = (List.replicate n.toNat v).toArray := by
    rw [listMul_foldl_if]
    exact congrArg List.toArray (lm_rep_flat_one v n.toNat)
  rw [e2]
  have k₃ := Kp.push s₂.heap { cls := .type "list", data := .seq (List.replicate n.toNat v).toArray }
  exact f s₂.heap.objs.size (List.replicate n.toNat v) (List.replicate n.toNat d) _ ((k₁.trans k₂).kp.none (get_none_of_size _)) ((k₁.trans k₂).trans .new) ⟨0, Heap.get?_push_size _ rfl⟩ ((RpAll.replicate rv n.toNat).addNew (get_none_of_size _) k₃) p
end
end Mine

set_option maxRecDepth 100000
set_option autoImplicit false
set_option linter.unusedVariables false
namespace Mine
open PySem PySem.W PySem.Calls PyProof.Rows PySem.Spec
/-! ### the text's defs, by their place -/
def fdef (p : Program) (i : Nat) : DefRec := match p.main.body[i]? with
  | some (.FunctionDef n a b _ _ _ sc _ _ pos) => ⟨n, a, b, sc, pos⟩
  | _ => ⟨"", ⟨[], [], none, [], [], none, []⟩, [], { kind := .function, names := [], isGenerator := false, isCoroutine := false, more := [] }, ⟨0, 0, 0, 0⟩⟩
abbrev fdOf (d : DefRec) (pm code doc : Value) : FuncData := docDef d.name d.params d.body d.scope pm code doc
/-- the def stands at f -/
def Wd.Df (W : Wd) (d : DefRec) (f : Addr) : Prop := W.Gl d.name (.ref f) ∧ ∃ pm code doc, W.Fun f (fdOf d pm code doc)
section
variable {p : Program} {loose : List Str} {mean : ExcName → Option Value} {mg mb : Str → Option Value} {h : Heap} {prog : Program} {w : World}
theorem df_of (T : Top p loose mean mg mb h) {d : DefRec} (hd : d ∈ recsOf p) : ∃ f, mg d.name = some (.ref f) ∧ Wd.Df ⟨prog, w, h⟩ d f := by
  obtain ⟨a, o, pm, code, doc, h1, h2, h3, h4⟩ := T.fn d hd
  exact ⟨a, h1, .inl ⟨mg, T.g, h1⟩, pm, code, doc, ⟨⟨o, h2, h3⟩, T.nolimit, h4⟩⟩
theorem gl_boot (T : Top p loose mean mg mb h) {x : Str} {v : Value} (hv : bootBuiltins x = some v) (hx : x ≠ "__name__") (h1 : x ∉ startupNames) (h2 : x ∉ loose) (h3 : x ∉ (recsOf p).map (·.name)) (h4 : x ∉ (litsOf p).map (·.1)) (h5 : x ∉ (clssOf p loose).map (·.name)) : Wd.Gl ⟨prog, w, h⟩ x v :=
  .inr ⟨mg, mb, T.g, T.free x h1 h2 h3 h4 h5, T.b, (T.builtins x hx).trans hv⟩
theorem end_true {c : ClaimW} {cl : Str → Option Addr} {mean : ExcName → Option Value} {args : List WData} {s₁ s' : Shared} {v : Value} {O : Addr → Prop} (hr : ∀ cls, c.raises args cls = false) (hp : c.post args (.bool true) args = true) (hg : s₁.gens = #[]) (m : Mv s₁ s') (r : Rp O s'.heap v (.bool true)) :
    GoodWG c cl mean args s₁ (.ok (.ret v)) s' := by
  rw [r.bool_inv]
  exact ⟨.inl ⟨_, .bool true, [], rfl, hr, .bool true, hp, fun _ => ⟨.nil, fun _ q => nomatch q⟩⟩, .of_keep m.kp, m.os, m.gs (.of_eq hg)⟩
theorem canLay_ints : ∀ ns : List Int, PyData.canLayAll0 (ns.map .int) = true
  | [] => rfl
  | n :: ns => canAll_cons.mpr ⟨rfl, canLay_ints ns⟩
theorem close_law {n : Nat} {c : ClaimW} {cl : Str → Option Addr} {mean : ExcName → Option Value} {args : List WData} {s₁ : Shared} {fa l : Addr} {ns : List Int} {as : List Addr} {E : Value → Shared → Prop}
    (x : FN ⟨prog, w, s₁.heap⟩ n fa [.list (ns.map .int)] fun d => d = .bool true) (hn : Rm n callerA) (r : Reads s₁.heap (.ref l) (.list (ns.map .int)) as) (hr : ∀ cls, c.raises args cls = false) (hp : c.post args (.bool true) args = true) (hg : s₁.gens = #[]) :
    wpAny (model prog w) callerA (call (.ref fa) [.ref l]) (fun v s' => GoodWG c cl mean args s₁ (.ok (.ret v)) s') E s₁ := by
  refine x callerA s₁ (fun _ => False) [.ref l] hn (.refl _) (fun _ q => q.elim) (.cons ⟨canLay_ints ns, as, r, fun _ _ q => q⟩ .nil) _ _ fun v d s' m rv e => ?_
  subst e
  exact end_true hr hp hg m rv
end
end Mine
namespace Mine
open PySem PySem.W PySem.Calls PyProof.Rows PySem.Spec
def kchk (sc : Scope) (names : List Str) : Bool := names.all fun x => decide (sc.names.lookup x = some .local) || decide (sc.names.lookup x = some .cell)
theorem defOk {d : DefRec} {pm code doc : Value} {names : List Str} (h1 : d.scope.isCoroutine = false) (h2 : d.scope.isGenerator = false) (h3 : d.scope.kind = .function)
    (h4 : ∀ vs, vs.length = names.length → bindArgs (fdOf d pm code doc) ⟨vs, []⟩ = pure (names.zip vs)) (h5 : names.Nodup) (h6 : kchk d.scope names = true) : DefOk (fdOf d pm code doc) d.body names where
  body_ := rfl
  clos := rfl
  gl := rfl
  bi := rfl
  co := h1
  gen := h2
  kind := h3
  bind := h4
  nd := h5
  kn := fun x hx => by
    have := List.all_eq_true.mp h6 x hx
    rcases Bool.or_eq_true_iff.mp this with q | q
    · exact .inl (of_decide_eq_true q)
    · exact .inr (of_decide_eq_true q)
end Mine

set_option maxRecDepth 100000
set_option autoImplicit false
set_option linter.unusedVariables false
namespace Mine
open PySem PySem.W PySem.Calls PyProof.Rows PySem.Spec
section
variable {W : Wd} {A : Around} {env : Env} {ρ : Store} {P : Out → Prop}
/-- one statement, what holds after it, and the rest -/
theorem ex_cut {st : Stmt} {rest : List Stmt} (J : Store → Prop) (x : EX1 W A env ρ st fun o => match o with | .next ρ' => J ρ' | o => P o) (y : ∀ ρ', J ρ' → EX W A env ρ' rest P) : EX W A env ρ (st :: rest) P :=
  ex_cons (x.mono fun o p => match o, p with
    | .next ρ', p => y ρ' p
    | .brk _, p => p
    | .cont _, p => p
    | .ret _, p => p
    | .reto _, p => p)
end
theorem filtT (ds : List PyData) : ds.filter (fun _ => true) = ds := by simp
/-- the reader: script[i], or 0 -/
def cellv (ns : List Int) (i : Int) : Int := ns.getD i.toNat 0
open PySem.Builtin.Int in
theorem cell_bits {ns : List Int} (hL : PyData.layable0 (.list (ns.map .int)) = true) (i : Int) : intBits (cellv ns i) ≤ 1048576 := by
  unfold cellv List.getD
  cases h : ns[i.toNat]? with
  | none => exact intBits_le_iff.mpr (by show (0 : Nat) < _; exact Nat.two_pow_pos _)
  | some x => exact intBits_le_of_item (List.mem_of_getElem? h) hL
theorem rangeL_get {a b : Int} {i : Nat} {d : PyData} (h : (rangeL a b)[i]? = some d) : d = .int (a + (i : Int)) ∧ i < (b - a).toNat ∧ a + (i : Int) < b := by
  unfold rangeL at h
  rw [List.getElem?_map] at h
  by_cases hi : i < (b - a).toNat
  · rw [List.getElem?_range hi] at h
    simp at h
    exact ⟨h.symm, hi, by omega⟩
  · rw [List.getElem?_eq_none (by simp; omega)] at h
    cases h
theorem rangeL_mem {a b : Int} {d : PyData} (h : d ∈ rangeL a b) : ∃ k : Int, d = .int k ∧ a ≤ k ∧ k < b := by
  obtain ⟨i, hi⟩ := List.getElem?_of_mem h
  obtain ⟨h1, h2, h3⟩ := rangeL_get hi
  exact ⟨_, h1, by omega, h3⟩
theorem depthAll_le {n : Nat} : ∀ {xs : List PyData}, (∀ x ∈ xs, x.depth ≤ n) → PyData.depthAll xs ≤ n
  | [], _ => by simp [PyData.depthAll]
  | x :: xs, h => by
    have h1 := h x (.head _)
    have h2 := depthAll_le (xs := xs) fun y hy => h y (.tail _ hy)
    simp only [PyData.depthAll]
    omega
theorem depth_list {n : Nat} {xs : List PyData} (h : ∀ x ∈ xs, x.depth ≤ n) : (PyData.list xs).depth ≤ n + 1 := by
  have := depthAll_le h
  simp only [PyData.depth]
  omega
theorem canLayAll_of : ∀ {xs : List PyData}, (∀ x ∈ xs, x.canLay0 = true) → PyData.canLayAll0 xs = true
  | [], _ => rfl
  | x :: xs, h => canAll_cons.mpr ⟨h x (.head _), canLayAll_of fun y hy => h y (.tail _ hy)⟩
/-- a def on data out of one on ints -/
def onInt (g : Int → PyData) : PyData → PyData
  | .int k => g k
  | _ => .none
def onIntB (g : Int → Bool) : PyData → Bool
  | .int k => g k
  | _ => false
def onList (g : List PyData → PyData) : PyData → PyData
  | .list k => g k
  | _ => .none
def FrAll (q : Str → Prop) : List Str → Prop
  | [] => True
  | y :: r => q y ∧ FrAll q r
theorem FrAll.get {q : Str → Prop} : ∀ {fr : List Str}, FrAll q fr → ∀ y ∈ fr, q y
  | _ :: _, h, _, .head _ => h.1
  | _ :: _, h, y, .tail _ m => FrAll.get h.2 y m
/-- a comprehension whose name is a plain local -/
theorem compOk {scope : Scope} {env : Env} {cl : List (Str × Addr)} {x : Str} {fr : List Str} (clos : closureFor scope env = pure cl) (kind : scope.kind = .function) (names : ∀ z ∈ scope.names, z.2 = .local → scope.names.lookup z.1 = some .local)
    (hx : ∀ C, (ce scope cl env C).kindOf x = some .local)
    (hfr : ∀ C, FrAll (fun y => y ≠ x ∧ env.kindOf y = some .cell ∧ (ce scope cl env C).kindOf y = some .cell ∧ (ce scope cl env C).cells.lookup y = env.cells.lookup y) fr) : CompOk scope env cl x fr :=
  ⟨clos, kind, names, fun C => .inl (hx C), fun C => (hfr C).get⟩
/-- a comprehension whose name is a cell, of an inner one -/
theorem compOkC {scope : Scope} {env : Env} {cl : List (Str × Addr)} {x : Str} {fr : List Str} (clos : closureFor scope env = pure cl) (kind : scope.kind = .function) (names : ∀ z ∈ scope.names, z.2 = .local → scope.names.lookup z.1 = some .local)
    (hx : ∀ C, (ce scope cl env C).kindOf x = some .cell ∧ ∃ c, (ce scope cl env C).cells.lookup x = some c ∧ (x, c) ∈ cellsFrom (C + 1) scope.names [])
    (hfr : ∀ C, FrAll (fun y => y ≠ x ∧ env.kindOf y = some .cell ∧ (ce scope cl env C).kindOf y = some .cell ∧ (ce scope cl env C).cells.lookup y = env.cells.lookup y) fr) : CompOk scope env cl x fr :=
  ⟨clos, kind, names, fun C => .inr (hx C), fun C => (hfr C).get⟩
end Mine

set_option maxRecDepth 100000
set_option autoImplicit false
set_option linter.unusedVariables false
namespace Mine
open PySem PySem.W PySem.Calls PyProof.Rows PySem.Spec
/-! ### the numbers of Fibonacci and Euclid's steps -/
def fib : Nat → Nat
  | 0 => 0
  | 1 => 1
  | n + 2 => fib (n + 1) + fib n
theorem fib_two (n : Nat) : fib (n + 2) = fib (n + 1) + fib n := rfl
theorem fib_mono (n : Nat) : fib n ≤ fib (n + 1) := by
  match n with
  | 0 => decide
  | n + 1 => rw [fib_two]; omega
theorem fib_le2 (n : Nat) : fib (n + 2) ≤ 2 * fib (n + 1) := by
  rw [fib_two]; have := fib_mono n; omega
theorem fib_75 : ∀ n : Nat, 7 * fib (n + 3) ≤ 5 * fib (n + 4)
  | 0 => by decide
  | n + 1 => by
    have h1 := fib_le2 (n + 2)
    have h2 : fib (n + 1 + 4) = fib (n + 4) + fib (n + 3) := rfl
    have h3 : n + 1 + 3 = n + 4 := by omega
    have h4 : n + 2 + 2 = n + 4 := by omega
    have h5 : n + 2 + 1 = n + 3 := by omega
    rw [h4, h5] at h1
    rw [h2, h3]; omega
theorem fib_ten : ∀ k : Nat, 10 ^ k ≤ fib (5 * k + 3)
  | 0 => by decide
  | k + 1 => by
    have ih := fib_ten k
    have h := fib_75 (5 * k)
    have e : fib (5 * (k + 1) + 3) = 5 * fib (5 * k + 4) + 3 * fib (5 * k + 3) := by
      have e0 : 5 * (k + 1) + 3 = 5 * k + 8 := by omega
      rw [e0]
      have a1 : fib (5 * k + 8) = fib (5 * k + 7) + fib (5 * k + 6) := rfl
      have a2 : fib (5 * k + 7) = fib (5 * k + 6) + fib (5 * k + 5) := rfl
      have a3 : fib (5 * k + 6) = fib (5 * k + 5) + fib (5 * k + 4) := rfl
      have a4 : fib (5 * k + 5) = fib (5 * k + 4) + fib (5 * k + 3) := rfl
      omega
    rw [e, Nat.pow_succ]
    omega
/-- Euclid's loop -/
def euc : Nat → Nat → Nat → Nat
  | 0, a, _ => a
  | f + 1, a, b => if b = 0 then a else euc f b (a % b)
theorem euc_succ (f a b : Nat) : euc (f + 1) a b = if b = 0 then a else euc f b (a % b) := rfl
theorem euc_ge : ∀ (f a b : Nat), b ≤ a → (a < fib (f + 2) ∨ b < fib (f + 1)) → euc f a b = Nat.gcd a b
  | 0, a, b, h, q => by
    have hb : b = 0 := by
      rcases q with q | q
      · have : a < 1 := q
        omega
      · have : b < 1 := q
        omega
    subst hb
    simp [euc]
  | f + 1, a, b, h, q => by
    rw [euc_succ]
    by_cases hb : b = 0
    · subst hb; simp
    · rw [if_neg hb]
      have hlt : a % b < b := Nat.mod_lt _ (Nat.pos_of_ne_zero hb)
      have key : b < fib (f + 2) ∨ a % b < fib (f + 1) := by
        rcases q with q | q
        · by_cases hc : b < fib (f + 2)
          · exact .inl hc
          · right
            have e : fib (f + 1 + 2) = fib (f + 2) + fib (f + 1) := rfl
            have hm : a % b ≤ a - b := by
              rw [Nat.mod_eq_sub_mod h]
              exact Nat.mod_le _ _
            omega
        · exact .inl q
      rw [euc_ge f b (a % b) (Nat.le_of_lt hlt) key]
      rw [Nat.gcd_comm b (a % b), ← Nat.gcd_rec, Nat.gcd_comm]
theorem euc_gcd (f a b : Nat) (h : a + b < fib (f + 2)) : euc (f + 1) a b = Nat.gcd a b := by
  by_cases hab : b ≤ a
  · refine euc_ge _ a b hab (.inl ?_)
    have := fib_mono (f + 2)
    have e : f + 1 + 2 = f + 2 + 1 := by omega
    rw [e]; omega
  · rw [euc_succ]
    have hb : b ≠ 0 := by omega
    rw [if_neg hb, Nat.mod_eq_of_lt (by omega), euc_ge f b a (by omega) (.inl (by omega)), Nat.gcd_comm]
theorem digits_lt (n : Nat) : n < 10 ^ (Str.length (Str.ofString (toString ((n : Nat) : Int)))) := by
  rw [PySem.ofString_length]
  have e : toString ((n : Nat) : Int) = n.repr := rfl
  rw [e]
  exact (Nat.length_repr_le_iff Nat.length_repr_pos).mp (Nat.le_refl _)
/-! ### fractions -/
def fr (q : Rat) : PyData := .tuple [.int q.num, .int (q.den : Int)]
theorem fr_inj {x y : Rat} (h : fr x = fr y) : x = y := by
  unfold fr at h
  injection h with h
  injection h with h1 h2
  injection h1 with h1
  injection h2 with h2 _
  injection h2 with h2
  exact Rat.ext h1 (by omega)
theorem fr_eqv (x y : Rat) : PyData.eqv (fr x) (fr y) = decide (x = y) := by
  have h : PyData.eqv (fr x) (fr y) = ((x.num == y.num) && ((x.den : Int) == (y.den : Int))) := by
    simp [fr, PyData.eqv, PyData.eqvAll]
  rw [h]
  by_cases e : x = y
  · subst e; simp
  · rw [decide_eq_false e]
    by_cases h1 : x.num = y.num
    · have h2 : ¬ ((x.den : Int) = (y.den : Int)) := fun h2 => e (Rat.ext h1 (by omega))
      simp [h1]
      omega
    · simp [h1]
theorem fr_depth (x : Rat) : (fr x).depth ≤ 1 := by simp [fr, PyData.depth, PyData.depthAll]
theorem fr_can (x : Rat) : (fr x).canLay0 = true := by simp [fr, PyData.canLay0, PyData.canLayAll0]
theorem fr_zero : fr 0 = .tuple [.int 0, .int 1] := rfl
theorem fr_one : fr 1 = .tuple [.int 1, .int 1] := rfl
theorem rat_num_den (x : Rat) : x = (x.num : Rat) / ((x.den : Int) : Rat) := by
  rw [← Rat.divInt_eq_div]; exact (Rat.num_divInt_den x).symm
theorem den_ne (x : Rat) : ((x.den : Int) : Rat) ≠ 0 := by
  have := x.den_nz
  intro h
  have : (x.den : Int) = 0 := by exact_mod_cast h
  omega
theorem cast_ne {z : Int} (h : z ≠ 0) : (z : Rat) ≠ 0 := by
  intro e
  exact h (by exact_mod_cast e)
theorem divInt_mul (x y : Rat) : Rat.divInt (x.num * y.num) ((x.den : Int) * (y.den : Int)) = x * y := by
  have hx := rat_num_den x
  have hy := rat_num_den y
  have dx := den_ne x
  have dy := den_ne y
  rw [Rat.divInt_eq_div, Rat.intCast_mul, Rat.intCast_mul]
  generalize (x.num : Rat) = a at *
  generalize (y.num : Rat) = b at *
  generalize ((x.den : Int) : Rat) = c at *
  generalize ((y.den : Int) : Rat) = d at *
  grind
theorem divInt_add (x y : Rat) : Rat.divInt (x.num * (y.den : Int) + y.num * (x.den : Int)) ((x.den : Int) * (y.den : Int)) = x + y := by
  have hx := rat_num_den x
  have hy := rat_num_den y
  have dx := den_ne x
  have dy := den_ne y
  rw [Rat.divInt_eq_div, Rat.intCast_mul, Rat.intCast_add, Rat.intCast_mul, Rat.intCast_mul]
  generalize (x.num : Rat) = a at *
  generalize (y.num : Rat) = b at *
  generalize ((x.den : Int) : Rat) = c at *
  generalize ((y.den : Int) : Rat) = d at *
  grind
theorem num_ne {x : Rat} (h : x ≠ 0) : x.num ≠ 0 := by
  intro e
  apply h
  rw [rat_num_den x, e, Rat.div_def]
  simp
theorem divInt_div (x y : Rat) (h : y ≠ 0) : Rat.divInt (x.num * (y.den : Int)) ((x.den : Int) * y.num) = x / y := by
  have hx := rat_num_den x
  have hy := rat_num_den y
  have dx := den_ne x
  have dy := den_ne y
  have ny := cast_ne (num_ne h)
  rw [Rat.divInt_eq_div, Rat.intCast_mul, Rat.intCast_mul]
  generalize (x.num : Rat) = a at *
  generalize (y.num : Rat) = b at *
  generalize ((x.den : Int) : Rat) = c at *
  generalize ((y.den : Int) : Rat) = d at *
  grind
/-- numerator and denominator below 2^B -/
def Sz (B : Nat) (q : Rat) : Prop := q.num.natAbs < 2 ^ B ∧ q.den < 2 ^ B
theorem Sz.up {B B' : Nat} {q : Rat} (h : Sz B q) (k : B ≤ B') : Sz B' q := ⟨Nat.lt_of_lt_of_le h.1 (Nat.pow_le_pow_right (by decide) k), Nat.lt_of_lt_of_le h.2 (Nat.pow_le_pow_right (by decide) k)⟩
theorem frac_val (n d : Int) (hd : 0 < d) : fr (Rat.divInt n d) = .tuple [.int (n.fdiv (Nat.gcd n.natAbs d.natAbs : Nat)), .int (d.fdiv (Nat.gcd n.natAbs d.natAbs : Nat))] := by
  unfold fr
  rw [Rat.num_divInt, Rat.den_divInt, if_neg (by omega), Int.sign_eq_one_of_pos hd, Int.one_mul]
  have e : d.gcd n = Nat.gcd n.natAbs d.natAbs := by rw [Int.gcd, Nat.gcd_comm]
  rw [e, Int.fdiv_eq_ediv_of_nonneg _ (by omega), Int.fdiv_eq_ediv_of_nonneg _ (by omega)]
  congr 4
  rw [Int.natCast_ediv]
  congr 1
  omega
theorem sz_divInt {B : Nat} {n d : Int} (hd : d ≠ 0) (hn : n.natAbs < 2 ^ B) (hd' : d.natAbs < 2 ^ B) : Sz B (Rat.divInt n d) := by
  unfold Sz
  rw [Rat.num_divInt, Rat.den_divInt, if_neg hd]
  refine ⟨?_, Nat.lt_of_le_of_lt (Nat.div_le_self _ _) hd'⟩
  have h1 : (d.sign * n).natAbs ≤ n.natAbs := by
    rw [Int.natAbs_mul]
    have : d.sign.natAbs ≤ 1 := by
      rcases Int.lt_trichotomy d 0 with h | h | h
      · rw [Int.sign_eq_neg_one_of_neg h]; decide
      · exact absurd h hd
      · rw [Int.sign_eq_one_of_pos h]; decide
    calc d.sign.natAbs * n.natAbs ≤ 1 * n.natAbs := Nat.mul_le_mul_right _ this
      _ = n.natAbs := Nat.one_mul _
  have h2 : (d.sign * n / (d.gcd n : Nat)).natAbs ≤ (d.sign * n).natAbs := Int.natAbs_ediv_le_natAbs _ _
  omega
theorem mul_lt_pow {a b A B : Nat} (ha : a < 2 ^ A) (hb : b < 2 ^ B) : a * b < 2 ^ (A + B) := by
  rw [Nat.pow_add]
  exact Nat.mul_lt_mul'' ha hb
theorem pow_add_lt {a b A : Nat} (ha : a < 2 ^ A) (hb : b < 2 ^ A) : a + b < 2 ^ (A + 1) := by
  rw [Nat.pow_succ]; omega
theorem sz_mul {A B : Nat} {x y : Rat} (hx : Sz A x) (hy : Sz B y) : Sz (A + B) (x * y) := by
  rw [← divInt_mul]
  have := x.den_nz
  have := y.den_nz
  refine sz_divInt (Int.mul_ne_zero (by omega) (by omega)) ?_ ?_
  · rw [Int.natAbs_mul]; exact mul_lt_pow hx.1 hy.1
  · rw [Int.natAbs_mul]; exact mul_lt_pow hx.2 hy.2
theorem sz_add {A B : Nat} {x y : Rat} (hx : Sz A x) (hy : Sz B y) : Sz (A + B + 1) (x + y) := by
  rw [← divInt_add]
  have := x.den_nz
  have := y.den_nz
  refine sz_divInt (Int.mul_ne_zero (by omega) (by omega)) ?_ ?_
  · refine Nat.lt_of_le_of_lt (Int.natAbs_add_le _ _) ?_
    rw [Int.natAbs_mul, Int.natAbs_mul]
    refine pow_add_lt (mul_lt_pow hx.1 hy.2) ?_
    rw [Nat.add_comm]
    exact mul_lt_pow hy.1 hx.2
  · rw [Int.natAbs_mul]
    exact Nat.lt_of_lt_of_le (mul_lt_pow hx.2 hy.2) (Nat.pow_le_pow_right (by decide) (by omega))
theorem sz_div {A B : Nat} {x y : Rat} (hx : Sz A x) (hy : Sz B y) (h : y ≠ 0) : Sz (A + B) (x / y) := by
  rw [← divInt_div x y h]
  have := x.den_nz
  have := num_ne h
  refine sz_divInt (Int.mul_ne_zero (by omega) this) ?_ ?_
  · rw [Int.natAbs_mul]; exact mul_lt_pow hx.1 hy.2
  · rw [Int.natAbs_mul]; exact mul_lt_pow hx.2 hy.1
theorem sz_neg {A : Nat} {x : Rat} (hx : Sz A x) : Sz A (-x) := by
  unfold Sz
  rw [Rat.neg_num, Rat.neg_den]
  exact ⟨by rw [Int.natAbs_neg]; exact hx.1, hx.2⟩
theorem fr_neg (x : Rat) : fr (-x) = .tuple [.int (-x.num), .int (x.den : Int)] := by
  unfold fr
  rw [Rat.neg_num, Rat.neg_den]
end Mine

namespace Mine
abbrev pp := PySem.Challenge.pw_k20_0024
end Mine

set_option maxRecDepth 100000
set_option autoImplicit false
set_option linter.unusedVariables false
namespace Mine
open PySem PySem.W PySem.Calls PyProof.Rows PySem.Spec
/-- the built-ins that the text uses -/
structure Bi (W : Wd) : Prop where
  len : W.Gl "len" (.builtin "len")
  abs : W.Gl "abs" (.builtin "abs")
  str : W.Gl "str" (.type "str")
  range : W.Gl "range" (.type "range")
theorem abs_eq (i : Int) : (if i < 0 then -i else i) = (i.natAbs : Int) := by split <;> omega
theorem ev_absN {W : Wd} {A : Around} {env : Env} {ρ : Store} {P : PyData → Prop} {gp pos : Pos} {e : Expr} (hg : W.Gl "abs" (.builtin "abs")) (h : EV W A env ρ e fun d => ∃ i : Int, d = .int i ∧ P (.int (i.natAbs : Int)))
    (hk : env.kindOf "abs" = some .globalImplicit := by rfl) (he : starEach [e] env = [(false, eval e env)] := by rfl) : EV W A env ρ (.Call (.Name "abs" gp) [e] [] pos) P :=
  ev_abs hg (h.mono fun d ⟨i, e, p⟩ => by subst e; dsimp only; rw [abs_eq]; exact p) hk he
theorem log2_lt {n B : Nat} (h : n < 2 ^ B) (hB : 0 < B) : n.log2 < B := by
  by_cases h0 : n = 0
  · subst h0; simpa using hB
  · exact (Nat.log2_lt h0).mpr h
open PySem.Builtin.Int in
theorem bits_of {x : Int} {B : Nat} (h : x.natAbs < 2 ^ B) : intBits x ≤ B := intBits_le_iff.mpr h
open PySem.Builtin.Int in
theorem gcd_c {W : Wd} {f : Addr} (D : W.Df (fdef pp 3) f) (G : Bi W) (a b : Int) (h : a.natAbs + b.natAbs < 2 ^ 1900) : FN W 1 f [.int a, .int b] fun d => d = .int (Nat.gcd a.natAbs b.natAbs : Nat) := by
  obtain ⟨hg, pm, code, doc, hf⟩ := D
  refine fn_of hf (names := ["a", "b"]) (defOk rfl rfl rfl (fun vs h => match vs, h with | [_, _], _ => rfl) (by decide) rfl) rfl fun A L rm => ?_
  refine ex_cons (ex_assign (.inl rfl) (ev_absN G.abs (ev_name rfl ⟨_, rfl, ?_⟩)))
  refine ex_cons (ex_assign (.inl rfl) (ev_absN G.abs (ev_name rfl ⟨_, rfl, ?_⟩)))
  generalize a.natAbs = x at h ⊢
  generalize b.natAbs = y at h ⊢
  have hsum : ((x : Int) + (y : Int)) = ((x + y : Nat) : Int) := by omega
  have hlog : ((x : Int) + (y : Int)).natAbs.log2 < 1920 := by
    rw [hsum]
    exact log2_lt (Nat.lt_of_lt_of_le (show ((x + y : Nat) : Int).natAbs < 2 ^ 1900 by omega) (Nat.pow_le_pow_right (by decide) (by decide))) (by decide)
  refine ex_cons (ex_for (.inl rfl) (itn_range1 rm.hh G.range (ev_bin (ev_bin (ev_int (ev_strlen G.len G.str (ev_bin (ev_name rfl (ev_name rfl (bo_add ⟨hlog, ?_⟩))))))))))
  have hdig : x + y < 10 ^ (Str.length (Str.ofString (toString ((x : Int) + (y : Int))))) := by rw [hsum]; exact digits_lt _
  have hlen : Str.length (Str.ofString (toString ((x : Int) + (y : Int)))) ≤ 1921 := by
    rw [PySem.ofString_length]
    exact int_text_length_le (by decide) hlog
  generalize Str.length (Str.ofString (toString ((x : Int) + (y : Int)))) = k at hdig hlen
  refine bo_mul (IntMulOk.of_le (m := 3) (n := 11) (by decide) (bits_of (by omega)) (by decide)) (ev_int (bo_add ⟨by omega, by omega, ?_⟩))
  have hgcd : euc (5 * k + 2) x y = Nat.gcd x y := euc_gcd (5 * k + 1) x y (Nat.lt_of_lt_of_le hdig (fib_ten k))
  have hN : (5 * (k : Int) + 2 - 0).toNat = 5 * k + 2 := by omega
  refine ⟨fun i ρ' => ∃ u v : Nat, euc (5 * k + 2 - i) u v = Nat.gcd x y ∧ SubS [("a", .sh (.int u)), ("b", .sh (.int v))] ρ', ⟨x, y, hgcd, rfl, rfl, trivial⟩, ?_, ?_⟩
  · rintro i d ρ' hd ⟨u, v, e, s1, s2, _⟩
    obtain ⟨rfl, hi1, hi2⟩ := rangeL_get hd
    refine ex_weak (ρ' := [("a", .sh (.int u)), ("b", .sh (.int v))]) ⟨s1, s2, trivial⟩ ?_
    have e1 : 5 * k + 2 - i = (5 * k + 2 - (i + 1)) + 1 := by omega
    rw [e1, euc_succ] at e
    refine ex_cons (ex_if (tv_cmp (ev_name rfl (ev_int (co_eqI ?_)))))
    by_cases hv : v = 0
    · subst hv
      rw [if_pos rfl] at e
      refine ex_cons (ex_ret (ev_name rfl ?_))
      rw [← e]; rfl
    · rw [if_neg hv] at e
      rw [beq_eq_false_iff_ne.mpr (by omega)]
      refine ex_nil (ex_cons (ex_pair_swapped rm.hh (.inl rfl) (.inl rfl) (evs_cons (ev_name rfl (evs_cons (ev_bin (ev_name rfl (ev_name rfl (bo_mod (by omega) (evs_nil (ex_nil ?_)))))))))))
      have e2 : (u : Int).fmod (v : Int) = ((u % v : Nat) : Int) := by
        rw [Int.fmod_eq_emod_of_nonneg _ (by omega)]; rfl
      rw [e2]
      exact ⟨v, u % v, e, rfl, rfl, trivial⟩
  · rintro ρ' ⟨u, v, e, s1, s2, _⟩
    rw [rangeL_length, hN, Nat.sub_self] at e
    refine ex_weak (ρ' := [("a", .sh (.int u)), ("b", .sh (.int v))]) ⟨s1, s2, trivial⟩ ?_
    refine ex_cons (ex_ret (ev_name rfl ?_))
    rw [← e]; rfl
theorem frac_c {W : Wd} {f g : Addr} (D : W.Df (fdef pp 4) f) (D' : W.Df (fdef pp 3) g) (G : Bi W) (n d : Int) (hd : d ≠ 0) (h : n.natAbs + d.natAbs < 2 ^ 1900) : FN W 2 f [.int n, .int d] fun r => r = fr (Rat.divInt n d) := by
  obtain ⟨hg, pm, code, doc, hf⟩ := D
  refine fn_of hf (names := ["n", "d"]) (defOk rfl rfl rfl (fun vs h => match vs, h with | [_, _], _ => rfl) (by decide) rfl) rfl fun A L rm => ?_
  have gc := fun a b h => gcd_c D' G a b h
  obtain ⟨hgg, pmg, codeg, docg, hfg⟩ := D'
  refine ex_cons (ex_if (tv_cmp (ev_name rfl (ev_int (co_eqI ?_)))))
  rw [beq_eq_false_iff_ne.mpr hd]
  refine ex_nil (ex_cut (fun ρ' => ∃ a b : Int, 0 < b ∧ a.natAbs = n.natAbs ∧ b.natAbs = d.natAbs ∧ Rat.divInt a b = Rat.divInt n d ∧ SubS [("n", .sh (.int a)), ("d", .sh (.int b))] ρ') (ex_if (tv_cmp (ev_name rfl (ev_int (co_lt ?_))))) ?_)
  · by_cases hn : d < 0
    · rw [decide_eq_true hn]
      refine ex_cons (ex_assign (.inl rfl) (ev_neg (ev_name rfl ?_)))
      refine ex_cons (ex_assign (.inl rfl) (ev_neg (ev_name rfl ?_)))
      exact ex_nil ⟨-n, -d, by omega, by omega, by omega, Rat.neg_divInt_neg n d, rfl, rfl, trivial⟩
    · rw [decide_eq_false hn]
      exact ex_nil ⟨n, d, by omega, rfl, rfl, rfl, rfl, rfl, trivial⟩
  rintro ρ' ⟨a, b, hb, ha', hb', e, s1, s2, _⟩
  refine ex_weak (ρ' := [("n", .sh (.int a)), ("d", .sh (.int b))]) ⟨s1, s2, trivial⟩ ?_
  rw [← e]
  refine ex_cons (ex_assign (.inl rfl) (ev_call rm hgg hfg (evs_cons (ev_name rfl (evs_cons (ev_name rfl (evs_nil ((gc a b (by omega)).mono fun r er => ?_))))))))
  subst er
  have gp : 0 < Nat.gcd a.natAbs b.natAbs := Nat.gcd_pos_of_pos_right _ (by omega)
  have glog : ((Nat.gcd a.natAbs b.natAbs : Nat) : Int).natAbs.log2 < 9000 := by
    refine log2_lt ?_ (by decide)
    have h1 : Nat.gcd a.natAbs b.natAbs ≤ b.natAbs := Nat.gcd_le_right _ (by omega)
    exact Nat.lt_of_lt_of_le (show ((Nat.gcd a.natAbs b.natAbs : Nat) : Int).natAbs < 2 ^ 1900 by omega) (Nat.pow_le_pow_right (by decide) (by decide))
  refine ex_cons (ex_ret (ev_tuple (by decide) (evs_cons (ev_bin (ev_name rfl (ev_name rfl (bo_div (by omega) glog (evs_cons (ev_bin (ev_name rfl (ev_name rfl (bo_div (by omega) glog (evs_nil ⟨by simp, ?_⟩)))))))))))))
  exact (frac_val a b hb).symm
end Mine

set_option maxRecDepth 100000
set_option autoImplicit false
set_option linter.unusedVariables false
namespace Mine
open PySem PySem.W PySem.Calls PyProof.Rows PySem.Spec
/-- the text's defs, where they lie -/
structure Fs (W : Wd) : Prop where
  bi : Bi W
  copy : ∃ f, W.Df (fdef pp 1) f
  piv : ∃ f, W.Df (fdef pp 2) f
  gcd : ∃ f, W.Df (fdef pp 3) f
  frac : ∃ f, W.Df (fdef pp 4) f
  add : ∃ f, W.Df (fdef pp 5) f
  neg : ∃ f, W.Df (fdef pp 6) f
  mul : ∃ f, W.Df (fdef pp 7) f
  div : ∃ f, W.Df (fdef pp 8) f
  swap : ∃ f, W.Df (fdef pp 9) f
  scale : ∃ f, W.Df (fdef pp 10) f
  radd : ∃ f, W.Df (fdef pp 11) f
  red : ∃ f, W.Df (fdef pp 12) f
  rank : ∃ f, W.Df (fdef pp 13) f
theorem fr_item0 (x : Rat) : ([PyData.int x.num, PyData.int (x.den : Int)])[(0 : Int).toNat]? = some (.int x.num) := rfl
theorem fr_item1 (x : Rat) : ([PyData.int x.num, PyData.int (x.den : Int)])[(1 : Int).toNat]? = some (.int (x.den : Int)) := rfl
open PySem.Builtin.Int in
theorem mul_c {W : Wd} (F : Fs W) {f : Addr} (D : W.Df (fdef pp 7) f) {A B : Nat} {x y : Rat} (hx : Sz A x) (hy : Sz B y) (hA : A + B ≤ 1890) : FN W 3 f [fr x, fr y] fun r => r = fr (x * y) := by
  obtain ⟨ff, DF⟩ := F.frac
  obtain ⟨gg, DG⟩ := F.gcd
  have fc := fun n d hd h => frac_c DF DG F.bi n d hd h
  obtain ⟨hg, pm, code, doc, hf⟩ := D
  obtain ⟨hgg, pmg, codeg, docg, hfg⟩ := DF
  refine fn_of hf (names := ["x", "y"]) (defOk rfl rfl rfl (fun vs h => match vs, h with | [_, _], _ => rfl) (by decide) rfl) rfl fun A L rm => ?_
  have dx := x.den_nz
  have dy := y.den_nz
  refine ex_cons (ex_ret (ev_call rm hgg hfg (evs_cons (ev_bin (ev_sub (ev_name rfl (ev_int ⟨by decide, by decide, _, fr_item0 x, ev_sub (ev_name rfl (ev_int ⟨by decide, by decide, _, fr_item0 y, ?_⟩))⟩)))))))
  refine bo_mul (IntMulOk.of_le (bits_of hx.1) (bits_of hy.1) (by omega)) ?_
  refine evs_cons (ev_bin (ev_sub (ev_name rfl (ev_int ⟨by decide, by decide, _, fr_item1 x, ev_sub (ev_name rfl (ev_int ⟨by decide, by decide, _, fr_item1 y, ?_⟩))⟩))))
  refine bo_mul (IntMulOk.of_le (bits_of (x := (x.den : Int)) hx.2) (bits_of (x := (y.den : Int)) hy.2) (by omega)) ?_
  refine evs_nil ((fc _ _ (Int.mul_ne_zero (by omega) (by omega)) ?_).mono fun r e => ?_)
  · rw [Int.natAbs_mul, Int.natAbs_mul]
    exact Nat.lt_of_lt_of_le (pow_add_lt (mul_lt_pow hx.1 hy.1) (mul_lt_pow hx.2 hy.2)) (Nat.pow_le_pow_right (by decide) (by omega))
  · rw [e, divInt_mul]
open PySem.Builtin.Int in
theorem add_c {W : Wd} (F : Fs W) {f : Addr} (D : W.Df (fdef pp 5) f) {A₀ B : Nat} {x y : Rat} (hx : Sz A₀ x) (hy : Sz B y) (hA : A₀ + B ≤ 1890) : FN W 3 f [fr x, fr y] fun r => r = fr (x + y) := by
  obtain ⟨ff, DF⟩ := F.frac
  obtain ⟨gg, DG⟩ := F.gcd
  have fc := fun n d hd h => frac_c DF DG F.bi n d hd h
  obtain ⟨hg, pm, code, doc, hf⟩ := D
  obtain ⟨hgg, pmg, codeg, docg, hfg⟩ := DF
  refine fn_of hf (names := ["x", "y"]) (defOk rfl rfl rfl (fun vs h => match vs, h with | [_, _], _ => rfl) (by decide) rfl) rfl fun A L rm => ?_
  have dx := x.den_nz
  have dy := y.den_nz
  refine ex_cons (ex_ret (ev_call rm hgg hfg (evs_cons (ev_bin (ev_bin (ev_sub (ev_name rfl (ev_int ⟨by decide, by decide, _, fr_item0 x, ev_sub (ev_name rfl (ev_int ⟨by decide, by decide, _, fr_item1 y, ?_⟩))⟩))))))))
  refine bo_mul (IntMulOk.of_le (bits_of hx.1) (bits_of (x := (y.den : Int)) hy.2) (by omega)) ?_
  refine ev_bin (ev_sub (ev_name rfl (ev_int ⟨by decide, by decide, _, fr_item0 y, ev_sub (ev_name rfl (ev_int ⟨by decide, by decide, _, fr_item1 x, ?_⟩))⟩)))
  refine bo_mul (IntMulOk.of_le (bits_of hy.1) (bits_of (x := (x.den : Int)) hx.2) (by omega)) (bo_add ?_)
  refine evs_cons (ev_bin (ev_sub (ev_name rfl (ev_int ⟨by decide, by decide, _, fr_item1 x, ev_sub (ev_name rfl (ev_int ⟨by decide, by decide, _, fr_item1 y, ?_⟩))⟩))))
  refine bo_mul (IntMulOk.of_le (bits_of (x := (x.den : Int)) hx.2) (bits_of (x := (y.den : Int)) hy.2) (by omega)) ?_
  refine evs_nil ((fc _ _ (Int.mul_ne_zero (by omega) (by omega)) ?_).mono fun r e => ?_)
  · refine Nat.lt_of_lt_of_le (pow_add_lt (A := A₀ + B + 1) ?_ ?_) (Nat.pow_le_pow_right (by decide) (by omega))
    · refine Nat.lt_of_le_of_lt (Int.natAbs_add_le _ _) ?_
      rw [Int.natAbs_mul, Int.natAbs_mul]
      refine pow_add_lt (mul_lt_pow hx.1 hy.2) ?_
      rw [Nat.add_comm]
      exact mul_lt_pow hy.1 hx.2
    · rw [Int.natAbs_mul]
      exact Nat.lt_of_lt_of_le (mul_lt_pow hx.2 hy.2) (Nat.pow_le_pow_right (by decide) (by omega))
  · rw [e, divInt_add]
open PySem.Builtin.Int in
theorem div_c {W : Wd} (F : Fs W) {f : Addr} (D : W.Df (fdef pp 8) f) {A B : Nat} {x y : Rat} (hx : Sz A x) (hy : Sz B y) (hA : A + B ≤ 1890) (h0 : y ≠ 0) : FN W 3 f [fr x, fr y] fun r => r = fr (x / y) := by
  obtain ⟨ff, DF⟩ := F.frac
  obtain ⟨gg, DG⟩ := F.gcd
  have fc := fun n d hd h => frac_c DF DG F.bi n d hd h
  obtain ⟨hg, pm, code, doc, hf⟩ := D
  obtain ⟨hgg, pmg, codeg, docg, hfg⟩ := DF
  refine fn_of hf (names := ["x", "y"]) (defOk rfl rfl rfl (fun vs h => match vs, h with | [_, _], _ => rfl) (by decide) rfl) rfl fun A L rm => ?_
  have dx := x.den_nz
  have dy := num_ne h0
  refine ex_cons (ex_if (tv_cmp (ev_sub (ev_name rfl (ev_int ⟨by decide, by decide, _, fr_item0 y, ev_int (co_eqI ?_)⟩)))))
  rw [beq_eq_false_iff_ne.mpr dy]
  refine ex_nil (ex_cons (ex_ret (ev_call rm hgg hfg (evs_cons (ev_bin (ev_sub (ev_name rfl (ev_int ⟨by decide, by decide, _, fr_item0 x, ev_sub (ev_name rfl (ev_int ⟨by decide, by decide, _, fr_item1 y, ?_⟩))⟩))))))))
  refine bo_mul (IntMulOk.of_le (bits_of hx.1) (bits_of (x := (y.den : Int)) hy.2) (by omega)) ?_
  refine evs_cons (ev_bin (ev_sub (ev_name rfl (ev_int ⟨by decide, by decide, _, fr_item1 x, ev_sub (ev_name rfl (ev_int ⟨by decide, by decide, _, fr_item0 y, ?_⟩))⟩))))
  refine bo_mul (IntMulOk.of_le (bits_of (x := (x.den : Int)) hx.2) (bits_of hy.1) (by omega)) ?_
  refine evs_nil ((fc _ _ (Int.mul_ne_zero (by omega) dy) ?_).mono fun r e => ?_)
  · rw [Int.natAbs_mul, Int.natAbs_mul]
    exact Nat.lt_of_lt_of_le (pow_add_lt (mul_lt_pow hx.1 hy.2) (mul_lt_pow hx.2 hy.1)) (Nat.pow_le_pow_right (by decide) (by omega))
  · rw [e, divInt_div x y h0]
theorem neg_c {W : Wd} {f : Addr} (D : W.Df (fdef pp 6) f) (x : Rat) : FN W 1 f [fr x] fun r => r = fr (-x) := by
  obtain ⟨hg, pm, code, doc, hf⟩ := D
  refine fn_of hf (names := ["x"]) (defOk rfl rfl rfl (fun vs h => match vs, h with | [_], _ => rfl) (by decide) rfl) rfl fun A L rm => ?_
  refine ex_cons (ex_ret (ev_tuple (by decide) (evs_cons (ev_neg (ev_sub (ev_name rfl (ev_int ⟨by decide, by decide, _, fr_item0 x, ?_⟩)))))))
  refine evs_cons (ev_sub (ev_name rfl (ev_int ⟨by decide, by decide, _, fr_item1 x, evs_nil ⟨by simp, ?_⟩⟩)))
  exact (fr_neg x).symm
/-! ### matrices -/
def rowF (C : Nat) (r : Nat → Rat) : PyData := .list ((List.range C).map fun j => fr (r j))
def matL (R C : Nat) (M : Nat → Nat → Rat) : List PyData := (List.range R).map fun i => rowF C (M i)
def matF (R C : Nat) (M : Nat → Nat → Rat) : PyData := .list (matL R C M)
theorem matL_length (R C : Nat) (M : Nat → Nat → Rat) : (matL R C M).length = R := by simp [matL]
theorem row_get {C j : Nat} {r : Nat → Rat} (h : j < C) : ((List.range C).map fun j => fr (r j))[j]? = some (fr (r j)) := by rw [List.getElem?_map, List.getElem?_range h]; rfl
theorem mat_get {R C i : Nat} {M : Nat → Nat → Rat} (h : i < R) : (matL R C M)[i]? = some (rowF C (M i)) := by unfold matL; rw [List.getElem?_map, List.getElem?_range h]; rfl
theorem mat_mem {R C : Nat} {M : Nat → Nat → Rat} {d : PyData} (h : d ∈ matL R C M) : ∃ i, i < R ∧ d = rowF C (M i) := by
  obtain ⟨i, hi, rfl⟩ := List.mem_map.mp h
  exact ⟨i, List.mem_range.mp hi, rfl⟩
theorem map_set {α : Type} {R i : Nat} {f : Nat → α} {x : α} : ((List.range R).map f).set i x = (List.range R).map fun t => if t = i then x else f t := by
  apply List.ext_getElem?
  intro t
  rw [List.getElem?_set, List.getElem?_map, List.getElem?_map, List.length_map, List.length_range]
  by_cases ht : t < R
  · rw [List.getElem?_range ht]
    by_cases e : i = t
    · subst e; simp [ht]
    · simp [e, Ne.symm e]
  · rw [List.getElem?_eq_none (by simp; omega)]
    by_cases e : i = t
    · subst e; simp [ht]
    · simp [e]
theorem matL_set {R C i : Nat} {M : Nat → Nat → Rat} {r : Nat → Rat} : (matL R C M).set i (rowF C r) = matL R C fun t => if t = i then r else M t := by
  unfold matL
  rw [map_set]
  refine List.map_congr_left fun t _ => ?_
  by_cases e : t = i
  · simp [e]
  · simp [e]
theorem rowF_depth (C : Nat) (r : Nat → Rat) : (rowF C r).depth ≤ 2 := depth_list fun x hx => by
  obtain ⟨j, _, rfl⟩ := List.mem_map.mp hx
  exact fr_depth _
theorem rowF_can (C : Nat) (r : Nat → Rat) : (rowF C r).canLay0 = true := canLayAll_of fun x hx => by
  obtain ⟨j, _, rfl⟩ := List.mem_map.mp hx
  exact fr_can _
theorem matF_depth (R C : Nat) (M : Nat → Nat → Rat) : (matF R C M).depth ≤ 3 := depth_list fun x hx => by
  obtain ⟨i, _, rfl⟩ := mat_mem hx
  exact rowF_depth _ _
theorem matF_can (R C : Nat) (M : Nat → Nat → Rat) : (matF R C M).canLay0 = true := canLayAll_of fun x hx => by
  obtain ⟨i, _, rfl⟩ := mat_mem hx
  exact rowF_can _ _
theorem copy_c {W : Wd} {f : Addr} (D : W.Df (fdef pp 1) f) (G : Bi W) (R C : Nat) (M : Nat → Nat → Rat) (hR : R ≤ 100) (hC : C ≤ 100) : FNo W 1 f [matF R C M] fun r => r = matL R C M := by
  obtain ⟨hg, pm, code, doc, hf⟩ := D
  refine fno_of hf (names := ["m"]) (defOk rfl rfl rfl (fun vs h => match vs, h with | [_], _ => rfl) (by decide) rfl) rfl fun A L rm => ?_
  refine ex_cons (ex_reto (evo_comp (fr := []) (compOk rfl rfl (by decide) (fun _ => rfl) fun _ => trivial) (fun d => d) (fun _ => true) (it_list rm.hh (ev_name rfl ⟨by rw [matL_length]; omega, fun d hd _ => ⟨rfl, fun _ => ?_⟩, ?_⟩))))
  · obtain ⟨i, hi, rfl⟩ := mat_mem hd
    exact EV.of_own (evo_slice (ev_name rfl ⟨by simp; omega, rfl⟩))
  · rw [filtT, List.map_id']
/-- the first row from s on with q, or -1 -/
def pivN (q : Nat → Bool) : Nat → Nat → Int
  | 0, _ => -1
  | k + 1, s => if q s then s else pivN q k (s + 1)
theorem pivN_succ (q : Nat → Bool) (k s : Nat) : pivN q (k + 1) s = if q s then (s : Int) else pivN q k (s + 1) := rfl
theorem piv_c {W : Wd} {f : Addr} (D : W.Df (fdef pp 2) f) (G : Bi W) (R C : Nat) (M : Nat → Nat → Rat) (c start : Nat) (hR : R ≤ 100) (hc : c < C) (hC : C ≤ 100) (hs : start ≤ 100) : FN W 1 f [matF R C M, .int (c : Int), .int (start : Int), fr 0] fun d => d = .int (pivN (fun i => decide (M i c ≠ 0)) (R - start) start) := by
  obtain ⟨hg, pm, code, doc, hf⟩ := D
  refine fn_of hf (names := ["m", "c", "start", "zero"]) (defOk rfl rfl rfl (fun vs h => match vs, h with | [_, _, _, _], _ => rfl) (by decide) rfl) rfl fun A L rm => ?_
  refine ex_cons (ex_for (.inl rfl) (itn_range2 rm.hh G.range (ev_name rfl (ev_len G.len (ev_name rfl ⟨by rw [matL_length]; omega, by omega, by omega, by omega, by rw [matL_length]; omega, ?_⟩)))))
  rw [matL_length]
  refine ⟨fun i ρ' => pivN (fun i => decide (M i c ≠ 0)) (R - start) start = pivN (fun i => decide (M i c ≠ 0)) (R - start - i) (start + i) ∧ SubS [("m", .sh (matF R C M)), ("c", .sh (.int c)), ("start", .sh (.int start)), ("zero", .sh (fr 0))] ρ', ⟨rfl, rfl, rfl, rfl, rfl, trivial⟩, ?_, ?_⟩
  · rintro i d ρ' hd ⟨hp, s1, s2, s3, s4, _⟩
    obtain ⟨rfl, hi1, hi2⟩ := rangeL_get hd
    refine ex_weak (ρ' := [("i", .sh (.int ((start : Int) + (i : Int)))), ("m", .sh (matF R C M)), ("c", .sh (.int c)), ("start", .sh (.int start)), ("zero", .sh (fr 0))]) ⟨rfl, s1, s2, s3, s4, trivial⟩ ?_
    have eN : ((start : Int) + (i : Int)).toNat = start + i := by omega
    have g1 : (matL R C M)[((start : Int) + (i : Int)).toNat]? = some (rowF C (M (start + i))) := by rw [eN]; exact mat_get (by omega)
    have g2 : ((List.range C).map fun j => fr (M (start + i) j))[((c : Nat) : Int).toNat]? = some (fr (M (start + i) c)) := row_get hc
    refine ex_cons (ex_if (tv_cmp (ev_sub (ev_sub (ev_name rfl (ev_name rfl ⟨by omega, by omega, _, g1, ev_name rfl ⟨by omega, by omega, _, g2, ev_name rfl (co_ne rm ?_ ?_)⟩⟩))))))
    · have := fr_depth 0
      omega
    rw [fr_eqv]
    have e1 : R - start - i = (R - start - (i + 1)) + 1 := by omega
    rw [e1, pivN_succ] at hp
    by_cases hb : M (start + i) c = 0
    · rw [decide_eq_true hb]
      rw [if_neg (by simp [hb])] at hp
      exact ex_nil (ex_nil ⟨by rw [hp, Nat.add_assoc], rfl, rfl, rfl, rfl, trivial⟩)
    · rw [decide_eq_false hb]
      rw [if_pos (by simp [hb])] at hp
      refine ex_cons (ex_ret (ev_name rfl ?_))
      show PyData.int _ = _
      rw [hp]
      congr 1
  · rintro ρ' ⟨hp, s1, s2, s3, s4, _⟩
    rw [rangeL_length] at hp
    have e1 : R - start - ((R : Int) - (start : Int)).toNat = 0 := by omega
    rw [e1] at hp
    refine ex_cons (ex_ret (ev_neg (ev_int ?_)))
    show PyData.int _ = _
    rw [hp]
    rfl
end Mine

set_option maxRecDepth 100000
set_option autoImplicit false
set_option linter.unusedVariables false
namespace Mine
open PySem PySem.W PySem.Calls PyProof.Rows PySem.Spec
theorem FNo.mono {W : Wd} {n : Nat} {f : Addr} {ds : List PyData} {P P' : List PyData → Prop} (x : FNo W n f ds P) (k : ∀ d, P d → P' d) : FNo W n f ds P' :=
  fun A s O vs a b c d Q E q => x A s O vs a b c d Q E fun D vs ds s' h1 h2 h3 h4 p => q D vs ds s' h1 h2 h3 h4 (k ds p)
def onFr (g : Rat → PyData) : PyData → PyData
  | .tuple [.int n, .int m] => g (Rat.divInt n m)
  | _ => .none
theorem onFr_fr (g : Rat → PyData) (x : Rat) : onFr g (fr x) = g x := by
  show g (Rat.divInt x.num (x.den : Int)) = g x
  rw [Rat.num_divInt_den]
theorem swap_c {W : Wd} (F : Fs W) {f : Addr} (D : W.Df (fdef pp 9) f) (R C : Nat) (M : Nat → Nat → Rat) (i j : Nat) (hR : R ≤ 100) (hC : C ≤ 100) (hi : i < R) (hj : j < R) : FN W 2 f [matF R C M, .int (i : Int), .int (j : Int)] fun d => d = matF R C fun t => if t = j then M i else if t = i then M j else M t := by
  obtain ⟨cc, DC⟩ := F.copy
  have cp := copy_c DC F.bi R C M hR hC
  obtain ⟨hg, pm, code, doc, hf⟩ := D
  obtain ⟨hgc, pmc, codec, docc, hfc⟩ := DC
  refine fn_of hf (names := ["m", "i", "j"]) (defOk rfl rfl rfl (fun vs h => match vs, h with | [_, _, _], _ => rfl) (by decide) rfl) rfl fun A L rm => ?_
  refine ex_cons (ex_assign_own (.inl rfl) (evo_call rm hgc hfc (evs_cons (ev_name rfl (evs_nil (cp.mono fun d e => ?_))))))
  subst e
  have gi : (matL R C M)[((i : Nat) : Int).toNat]? = some (rowF C (M i)) := mat_get hi
  have gj : (matL R C M)[((j : Nat) : Int).toNat]? = some (rowF C (M j)) := mat_get hj
  refine ex_cons (ex_setitem rfl (EV.of_own (evo_slice (ev_sub (ev_name rfl (ev_name rfl ⟨by omega, by omega, _, gj, by simp; omega, ev_name rfl ⟨by omega, by rw [matL_length]; omega, by omega, ?_⟩⟩))))))
  refine ex_cons (ex_setitem rfl (EV.of_own (evo_slice (ev_sub (ev_name rfl (ev_name rfl ⟨by omega, by omega, _, gi, by simp; omega, ev_name rfl ⟨by omega, by rw [List.length_set, matL_length]; omega, by omega, ?_⟩⟩))))))
  refine ex_share "out" rfl ?_
  refine ex_cons (ex_ret (ev_name rfl ?_))
  show PyData.list (((matL R C M).set i (rowF C (M j))).set j (rowF C (M i))) = _
  rw [matL_set, matL_set]
  rfl
theorem scale_c {W : Wd} (F : Fs W) {f : Addr} (D : W.Df (fdef pp 10) f) (R C : Nat) (M : Nat → Nat → Rat) (i : Nat) (k : Rat) {a b : Nat} (hR : R ≤ 100) (hC : C ≤ 100) (hi : i < R) (hk : Sz a k) (hM : ∀ c, c < C → Sz b (M i c)) (hab : a + b ≤ 1890) : FN W 4 f [matF R C M, .int (i : Int), fr k] fun d => d = matF R C fun t => if t = i then (fun c => k * M i c) else M t := by
  obtain ⟨cc, DC⟩ := F.copy
  have cp := (copy_c DC F.bi R C M hR hC).up (show 1 ≤ 3 by decide)
  obtain ⟨mm, DM⟩ := F.mul
  have mc := fun x hx => mul_c F DM (x := k) (y := x) hk hx hab
  obtain ⟨hg, pm, code, doc, hf⟩ := D
  obtain ⟨hgc, pmc, codec, docc, hfc⟩ := DC
  obtain ⟨hgm, pmm, codem, docm, hfm⟩ := DM
  refine fn_of hf (names := ["m", "i", "k"]) (defOk rfl rfl rfl (fun vs h => match vs, h with | [_, _, _], _ => rfl) (by decide) rfl) rfl fun A L rm => ?_
  refine ex_cons (ex_assign_own (.inl rfl) (evo_call rm hgc hfc (evs_cons (ev_name rfl (evs_nil (cp.mono fun d e => ?_))))))
  subst e
  have gi : (matL R C M)[((i : Nat) : Int).toNat]? = some (rowF C (M i)) := mat_get hi
  refine ex_cons (ex_setitem rfl (EV.of_own (evo_comp (fr := ["k"]) (compOk rfl rfl (by decide) (fun _ => rfl) fun _ => ⟨⟨by decide, rfl, rfl, rfl⟩, trivial⟩) (onFr fun x => fr (k * x)) (fun _ => true) (it_list rm.hh (ev_sub (ev_name rfl (ev_name rfl ⟨by omega, by omega, _, gi, by simp; omega, fun d hd _ => ⟨rfl, fun _ => ?_⟩, ?_⟩)))))))
  · obtain ⟨c, hc, rfl⟩ := List.mem_map.mp hd
    have hc' := List.mem_range.mp hc
    refine ev_call rm hgm hfm (evs_cons (ev_name rfl (evs_cons (ev_name rfl (evs_nil ((mc _ (hM c hc')).mono fun d e => ?_))))))
    rw [e, onFr_fr]
  rw [filtT]
  refine ev_name rfl ⟨by omega, by rw [matL_length]; omega, by omega, ?_⟩
  refine ex_share "out" rfl ?_
  refine ex_cons (ex_ret (ev_name rfl ?_))
  show PyData.list ((matL R C M).set i (PyData.list (((List.range C).map fun j => fr (M i j)).map (onFr fun x => fr (k * x))))) = _
  have e : PyData.list (((List.range C).map fun j => fr (M i j)).map (onFr fun x => fr (k * x))) = rowF C fun c => k * M i c := by
    unfold rowF
    rw [List.map_map]
    congr 1
    refine List.map_congr_left fun c _ => ?_
    exact onFr_fr _ _
  rw [e, matL_set]
  rfl
theorem radd_c {W : Wd} (F : Fs W) {f : Addr} (D : W.Df (fdef pp 11) f) (R C : Nat) (M : Nat → Nat → Rat) (i j : Nat) (k : Rat) {a b b' : Nat} (hR : R ≤ 100) (hC : C ≤ 100) (hi : i < R) (hj : j < R) (hk : Sz a k) (hM : ∀ c, c < C → Sz b (M i c)) (hM' : ∀ c, c < C → Sz b' (M j c)) (hab : a + b + b' ≤ 1890) :
    FN W 4 f [matF R C M, .int (i : Int), .int (j : Int), fr k] fun d => d = matF R C fun t => if t = i then (fun c => M i c + k * M j c) else M t := by
  obtain ⟨cc, DC⟩ := F.copy
  have cp := (copy_c DC F.bi R C M hR hC).up (show 1 ≤ 3 by decide)
  obtain ⟨mm, DM⟩ := F.mul
  have mc := fun x hx => mul_c F DM (x := k) (y := x) (B := b') hk hx (by omega)
  obtain ⟨aa, DA⟩ := F.add
  have ac := fun (x y : Rat) hx hy => add_c F DA (x := x) (y := y) (A₀ := b) (B := a + b') hx hy (by omega)
  obtain ⟨hg, pm, code, doc, hf⟩ := D
  obtain ⟨hgc, pmc, codec, docc, hfc⟩ := DC
  obtain ⟨hgm, pmm, codem, docm, hfm⟩ := DM
  obtain ⟨hga, pma, codea, doca, hfa⟩ := DA
  refine fn_of hf (names := ["m", "i", "j", "k"]) (defOk rfl rfl rfl (fun vs h => match vs, h with | [_, _, _, _], _ => rfl) (by decide) rfl) rfl fun A L rm => ?_
  refine ex_cons (ex_assign_own (.inl rfl) (evo_call rm hgc hfc (evs_cons (ev_name rfl (evs_nil (cp.mono fun d e => ?_))))))
  subst e
  have gi : (matL R C M)[((i : Nat) : Int).toNat]? = some (rowF C (M i)) := mat_get hi
  have gj : (matL R C M)[((j : Nat) : Int).toNat]? = some (rowF C (M j)) := mat_get hj
  refine ex_cons (ex_setitem rfl (EV.of_own (evo_comp (fr := ["i", "j", "k", "m"]) (compOk rfl rfl (by decide) (fun _ => rfl) fun _ => ⟨⟨by decide, rfl, rfl, rfl⟩, ⟨by decide, rfl, rfl, rfl⟩, ⟨by decide, rfl, rfl, rfl⟩, ⟨by decide, rfl, rfl, rfl⟩, trivial⟩) (onInt fun c => fr (M i c.toNat + k * M j c.toNat)) (fun _ => true)
    (it_range1 rm.hh F.bi.range (ev_len F.bi.len (ev_sub (ev_name rfl (ev_name rfl ⟨by omega, by omega, _, gi, by simp; omega, by omega, by simp; omega, fun d hd _ => ⟨rfl, fun _ => ?_⟩, ?_⟩))))))))
  · obtain ⟨c, rfl, c0, c1⟩ := rangeL_mem hd
    rw [List.length_map, List.length_range] at c1
    have hc : c.toNat < C := by omega
    have hgi : ((List.range C).map fun j => fr (M i j))[c.toNat]? = some (fr (M i c.toNat)) := row_get hc
    have hgj : ((List.range C).map fun j' => fr (M j j'))[c.toNat]? = some (fr (M j c.toNat)) := row_get hc
    refine ev_call rm hga hfa (evs_cons (ev_sub (ev_sub (ev_name rfl (ev_name rfl ⟨by omega, by omega, _, gi, ev_name rfl ⟨by omega, by omega, _, hgi, ?_⟩⟩)))))
    refine evs_cons (ev_call rm hgm hfm (evs_cons (ev_name rfl (evs_cons (ev_sub (ev_sub (ev_name rfl (ev_name rfl ⟨by omega, by omega, _, gj, ev_name rfl ⟨by omega, by omega, _, hgj, evs_nil ((mc _ (hM' _ hc)).mono fun d e => ?_)⟩⟩))))))))
    subst e
    exact evs_nil ((ac _ _ (hM _ hc) (sz_mul hk (hM' _ hc))).mono fun d e => e)
  rw [filtT, List.length_map, List.length_range]
  refine ev_name rfl ⟨by omega, by rw [matL_length]; omega, by omega, ?_⟩
  refine ex_share "out" rfl ?_
  refine ex_cons (ex_ret (ev_name rfl ?_))
  show PyData.list ((matL R C M).set i (PyData.list ((rangeL 0 (C : Int)).map (onInt fun c => fr (M i c.toNat + k * M j c.toNat))))) = _
  have e : PyData.list ((rangeL 0 (C : Int)).map (onInt fun c => fr (M i c.toNat + k * M j c.toNat))) = rowF C fun c => M i c + k * M j c := by
    unfold rowF rangeL
    rw [List.map_map]
    have e0 : ((C : Int) - 0).toNat = C := by omega
    rw [e0]
    congr 1
    refine List.map_congr_left fun c _ => ?_
    have e1 : (0 + (c : Int)).toNat = c := by omega
    show fr (M i (0 + (c : Int)).toNat + k * M j (0 + (c : Int)).toNat) = _
    rw [e1]
  rw [e, matL_set]
  rfl
end Mine

set_option maxRecDepth 100000
set_option autoImplicit false
set_option linter.unusedVariables false
namespace Mine
open PySem PySem.W PySem.Calls PyProof.Rows PySem.Spec
theorem pivN_cases (q : Nat → Bool) : ∀ k s : Nat, (pivN q k s = -1 ∧ ∀ i, s ≤ i → i < s + k → q i = false) ∨ ∃ t : Nat, pivN q k s = (t : Int) ∧ s ≤ t ∧ t < s + k ∧ q t = true ∧ ∀ i, s ≤ i → i < t → q i = false
  | 0, s => .inl ⟨rfl, fun i h1 h2 => by omega⟩
  | k + 1, s => by
    rw [pivN_succ]
    by_cases hq : q s = true
    · rw [if_pos hq]
      exact .inr ⟨s, rfl, Nat.le_refl _, by omega, hq, fun i h1 h2 => by omega⟩
    · rw [if_neg hq]
      have hq' : q s = false := by simpa using hq
      rcases pivN_cases q k (s + 1) with ⟨h1, h2⟩ | ⟨t, h1, h2, h3, h4, h5⟩
      · refine .inl ⟨h1, fun i a b => ?_⟩
        by_cases e : i = s
        · subst e; exact hq'
        · exact h2 i (by omega) (by omega)
      · refine .inr ⟨t, h1, by omega, by omega, h4, fun i a b => ?_⟩
        by_cases e : i = s
        · subst e; exact hq'
        · exact h5 i (by omega) b
/-- rows i and j change places -/
def swapM (M : Nat → Nat → Rat) (i j : Nat) : Nat → Nat → Rat := fun t => if t = j then M i else if t = i then M j else M t
theorem swapM_self (M : Nat → Nat → Rat) (i : Nat) : swapM M i i = M := by
  funext t
  unfold swapM
  by_cases h : t = i
  · simp [h]
  · simp [h]
/-- row top is scaled so that its entry in column c is 1 -/
def scaleM (M : Nat → Nat → Rat) (top c : Nat) : Nat → Nat → Rat := fun t => if t = top then (fun j => 1 / M top c * M top j) else M t
/-- column c is cleared in the rows below i but for top -/
def clearM (M : Nat → Nat → Rat) (top c i : Nat) : Nat → Nat → Rat := fun t => if t < i ∧ t ≠ top then (fun j => M t j + -(M t c) * M top j) else M t
def stepM (R : Nat) (M : Nat → Nat → Rat) (top t c : Nat) : Nat → Nat → Rat := clearM (scaleM (swapM M top t) top c) top c R
/-- the state after n columns -/
def stM (R : Nat) (M : Nat → Nat → Rat) : Nat → (Nat → Nat → Rat) × List Nat
  | 0 => (M, [])
  | c + 1 => match pivN (fun i => decide ((stM R M c).1 i c ≠ 0)) (R - (stM R M c).2.length) (stM R M c).2.length with
    | .ofNat t => (stepM R (stM R M c).1 (stM R M c).2.length t c, (stM R M c).2 ++ [c])
    | _ => stM R M c
def bd (B : Nat) : Nat → Nat
  | 0 => B
  | c + 1 => 4 * bd B c + 2
def pivD (p : List Nat) : List PyData := p.map fun (c : Nat) => PyData.int (c : Int)
theorem clear_zero (M : Nat → Nat → Rat) (top c : Nat) : clearM M top c 0 = M := by
  funext t
  unfold clearM
  rw [if_neg (by omega)]
theorem clear_top (M : Nat → Nat → Rat) (top c i : Nat) : clearM M top c i top = M top := by
  unfold clearM
  rw [if_neg (by simp)]
theorem clear_at (M : Nat → Nat → Rat) (top c i : Nat) : clearM M top c i i = M i := by
  unfold clearM
  rw [if_neg (by omega)]
theorem clear_skip (M : Nat → Nat → Rat) (top c i : Nat) (h : i = top ∨ M i c = 0) : clearM M top c (i + 1) = clearM M top c i := by
  funext t
  unfold clearM
  by_cases e : t = i
  · subst e
    rcases h with h | h
    · rw [if_neg (by omega), if_neg (by omega)]
    · rw [if_neg (show ¬ (t < t ∧ t ≠ top) by omega)]
      by_cases e2 : t = top
      · rw [if_neg (by omega)]
      · rw [if_pos ⟨by omega, e2⟩]
        funext j
        rw [h]; grind
  · by_cases e3 : t < i ∧ t ≠ top
    · rw [if_pos e3, if_pos ⟨by omega, e3.2⟩]
    · rw [if_neg e3, if_neg (by omega)]
theorem clear_do (M : Nat → Nat → Rat) (top c i : Nat) (h : i ≠ top) : (fun t => if t = i then (fun j => clearM M top c i i j + -(clearM M top c i i c) * clearM M top c i top j) else clearM M top c i t) = clearM M top c (i + 1) := by
  rw [clear_at, clear_top]
  funext t
  by_cases e : t = i
  · subst e
    rw [if_pos rfl]
    unfold clearM
    rw [if_pos ⟨by omega, h⟩]
  · rw [if_neg e]
    unfold clearM
    by_cases e3 : t < i ∧ t ≠ top
    · rw [if_pos e3, if_pos ⟨by omega, e3.2⟩]
    · rw [if_neg e3, if_neg (by omega)]
theorem bd_mono (B c : Nat) : B ≤ bd B c := by
  induction c with
  | zero => exact Nat.le_refl _
  | succ c ih => unfold bd; omega
def SzM (R C B : Nat) (M : Nat → Nat → Rat) : Prop := ∀ i j, i < R → j < C → Sz B (M i j)
theorem sz_one : Sz 1 (1 : Rat) := ⟨by decide, by decide⟩
theorem sz_swap {R C B : Nat} {M : Nat → Nat → Rat} {i j : Nat} (h : SzM R C B M) (hi : i < R) (hj : j < R) : SzM R C B (swapM M i j) := by
  intro t c ht hc
  unfold swapM
  by_cases e : t = j
  · simp only [if_pos e]; exact h i c hi hc
  · by_cases e2 : t = i
    · simp only [if_neg e, if_pos e2]; exact h j c hj hc
    · simp only [if_neg e, if_neg e2]; exact h t c ht hc
theorem sz_scale {R C B : Nat} {M : Nat → Nat → Rat} {top c : Nat} (h : SzM R C B M) (ht : top < R) (hc : c < C) (h0 : M top c ≠ 0) : (∀ j, j < C → Sz (2 * B + 1) (scaleM M top c top j)) ∧ ∀ t j, t < R → j < C → t ≠ top → Sz B (scaleM M top c t j) := by
  refine ⟨fun j hj => ?_, fun t j h1 h2 h3 => ?_⟩
  · unfold scaleM
    simp only [if_pos]
    exact (sz_mul (sz_div sz_one (h top c ht hc) h0) (h top j ht hj)).up (by omega)
  · unfold scaleM
    simp only [if_neg h3]
    exact h t j h1 h2
theorem sz_clear {R C B : Nat} {M : Nat → Nat → Rat} {top c i : Nat} (h1 : ∀ j, j < C → Sz (2 * B + 1) (M top j)) (h2 : ∀ t j, t < R → j < C → t ≠ top → Sz B (M t j)) (hc : c < C) : SzM R C (4 * B + 2) (clearM M top c i) := by
  intro t j ht hj
  unfold clearM
  by_cases e : t = top
  · subst e
    rw [if_neg (by simp)]
    exact (h1 j hj).up (by omega)
  · by_cases e2 : t < i ∧ t ≠ top
    · simp only [if_pos e2]
      exact (sz_add (h2 t j ht hj e) (sz_mul (sz_neg (h2 t c ht hc e)) (h1 j hj))).up (by omega)
    · simp only [if_neg e2]
      exact (h2 t j ht hj e).up (by omega)
/-- what a column does -/
inductive Col (R : Nat) (M : Nat → Nat → Rat) (c : Nat) : Prop
  | skip (h : stM R M (c + 1) = stM R M c) (hz : ∀ i, (stM R M c).2.length ≤ i → i < R → (stM R M c).1 i c = 0) (hp : pivN (fun i => decide ((stM R M c).1 i c ≠ 0)) (R - (stM R M c).2.length) (stM R M c).2.length = -1)
  | piv (t : Nat) (h : stM R M (c + 1) = (stepM R (stM R M c).1 (stM R M c).2.length t c, (stM R M c).2 ++ [c])) (h1 : (stM R M c).2.length ≤ t) (h2 : t < R) (h3 : (stM R M c).1 t c ≠ 0) (hp : pivN (fun i => decide ((stM R M c).1 i c ≠ 0)) (R - (stM R M c).2.length) (stM R M c).2.length = (t : Int))
theorem col (R : Nat) (M : Nat → Nat → Rat) (c : Nat) : Col R M c := by
  rcases pivN_cases (fun i => decide ((stM R M c).1 i c ≠ 0)) (R - (stM R M c).2.length) (stM R M c).2.length with ⟨h1, h2⟩ | ⟨t, h1, h2, h3, h4, h5⟩
  · refine .skip ?_ (fun i a b => ?_) h1
    · show (match pivN (fun i => decide ((stM R M c).1 i c ≠ 0)) (R - (stM R M c).2.length) (stM R M c).2.length with
        | .ofNat t => (stepM R (stM R M c).1 (stM R M c).2.length t c, (stM R M c).2 ++ [c])
        | _ => stM R M c) = _
      rw [h1]; rfl
    · have := h2 i a (by omega)
      simpa using this
  · refine .piv t ?_ h2 (by omega) (by simpa using h4) h1
    show (match pivN (fun i => decide ((stM R M c).1 i c ≠ 0)) (R - (stM R M c).2.length) (stM R M c).2.length with
      | .ofNat t => (stepM R (stM R M c).1 (stM R M c).2.length t c, (stM R M c).2 ++ [c])
      | _ => stM R M c) = _
    rw [h1]
theorem swap_at (M : Nat → Nat → Rat) (top t : Nat) : swapM M top t top = M t := by
  unfold swapM
  by_cases e : top = t
  · rw [if_pos e, e]
  · rw [if_neg e, if_pos rfl]
theorem st_sz {R C B : Nat} {M : Nat → Nat → Rat} (h : SzM R C B M) : ∀ c, c ≤ C → SzM R C (bd B c) (stM R M c).1
  | 0, _ => h
  | c + 1, hc => by
    have ih := st_sz h c (by omega)
    cases col R M c with
    | skip e hz _ => rw [e]; exact fun i j a b => (ih i j a b).up (by show bd B c ≤ 4 * bd B c + 2; omega)
    | piv t e h1 h2 h3 _ =>
      rw [e]
      have s1 := sz_swap ih (show (stM R M c).2.length < R by omega) h2
      have s2 := sz_scale s1 (show (stM R M c).2.length < R by omega) (show c < C by omega) (by rw [swap_at]; exact h3)
      exact sz_clear s2.1 s2.2 (by omega)
theorem st_len {R : Nat} {M : Nat → Nat → Rat} : ∀ c, (stM R M c).2.length ≤ c ∧ ∀ x ∈ (stM R M c).2, x < c
  | 0 => ⟨Nat.le_refl _, fun x hx => by cases hx⟩
  | c + 1 => by
    have ih := st_len (R := R) (M := M) c
    cases col R M c with
    | skip e hz _ => rw [e]; exact ⟨by omega, fun x hx => by have := ih.2 x hx; omega⟩
    | piv t e h1 h2 h3 _ =>
      rw [e]
      refine ⟨by simp; omega, fun x hx => ?_⟩
      rcases List.mem_append.mp hx with q | q
      · have := ih.2 x q; omega
      · rw [List.mem_singleton.mp q]; omega
end Mine

set_option maxRecDepth 100000
set_option autoImplicit false
set_option linter.unusedVariables false
namespace Mine
open PySem PySem.W PySem.Calls PyProof.Rows PySem.Spec
theorem red_c {W : Wd} (F : Fs W) {f : Addr} (D : W.Df (fdef pp 12) f) (R C B : Nat) (M : Nat → Nat → Rat) (hR : R ≤ 100) (hC : C ≤ 100) (hM : SzM R C B M) (hB : ∀ c, c < C → 4 * bd B c + 1 ≤ 1890) :
    FN W 5 f [matF R C M, .int (C : Int)] fun d => d = .tuple [matF R C (stM R M C).1, .list (pivD (stM R M C).2)] := by
  obtain ⟨f1, D1⟩ := F.copy
  obtain ⟨f2, D2⟩ := F.piv
  obtain ⟨f6, D6⟩ := F.neg
  obtain ⟨f8, D8⟩ := F.div
  obtain ⟨f9, D9⟩ := F.swap
  obtain ⟨f10, D10⟩ := F.scale
  obtain ⟨f11, D11⟩ := F.radd
  have c1 := fun M => (copy_c D1 F.bi R C M hR hC).up (show 1 ≤ 4 by decide)
  have c2 := fun M c s hc hs => (piv_c D2 F.bi R C M c s hR hc hC hs).up (show 1 ≤ 4 by decide)
  have c6 := fun x => (neg_c D6 x).up (show 1 ≤ 4 by decide)
  have c8 := fun (b : Nat) (y : Rat) (hy : Sz b y) (hb : 1 + b ≤ 1890) h0 => (div_c F D8 (x := 1) (y := y) sz_one hy hb h0).up (show 3 ≤ 4 by decide)
  have c9 := fun M i j hi hj => (swap_c F D9 R C M i j hR hC hi hj).up (show 2 ≤ 4 by decide)
  have c10 := fun M i k (a b : Nat) hi (hk : Sz a k) (hM : ∀ c, c < C → Sz b (M i c)) (hab : a + b ≤ 1890) => scale_c F D10 R C M i k hR hC hi hk hM hab
  have c11 := fun M i j k (a b b' : Nat) hi hj (hk : Sz a k) (hM : ∀ c, c < C → Sz b (M i c)) (hM' : ∀ c, c < C → Sz b' (M j c)) (hab : a + b + b' ≤ 1890) => radd_c F D11 R C M i j k hR hC hi hj hk hM hM' hab
  obtain ⟨hg, pm, code, doc, hf⟩ := D
  obtain ⟨g1, _, _, _, k1⟩ := D1
  obtain ⟨g2, _, _, _, k2⟩ := D2
  obtain ⟨g6, _, _, _, k6⟩ := D6
  obtain ⟨g8, _, _, _, k8⟩ := D8
  obtain ⟨g9, _, _, _, k9⟩ := D9
  obtain ⟨g10, _, _, _, k10⟩ := D10
  obtain ⟨g11, _, _, _, k11⟩ := D11
  refine fn_of hf (names := ["m", "cols"]) (defOk rfl rfl rfl (fun vs h => match vs, h with | [_, _], _ => rfl) (by decide) rfl) rfl fun A L rm => ?_
  refine ex_cons (ex_assign (.inl rfl) (ev_call rm g1 k1 (evs_cons (ev_name rfl (evs_nil (FN.of_own ((c1 M).mono fun d e => ?_)))))))
  subst e
  refine ex_cons (ex_assign_own (.inl rfl) (evo_list (evs_nil ⟨by simp, ?_⟩)))
  refine ex_cons (ex_assign (.inl rfl) (ev_int ?_))
  refine ex_cons (ex_for (.inl rfl) (itn_range1 rm.hh F.bi.range (ev_name rfl ⟨by omega, by omega, ?_⟩)))
  refine ⟨fun c ρ' => SubS [("red", .sh (matF R C (stM R M c).1)), ("pivots", .own true (pivD (stM R M c).2)), ("top", .sh (.int ((stM R M c).2.length : Int)))] ρ', ⟨rfl, rfl, rfl, trivial⟩, ?_, ?_⟩
  · rintro c d ρ' hd ⟨s1, s2, s3, _⟩
    obtain ⟨rfl, hi1, hi2⟩ := rangeL_get hd
    have hcC : c < C := by omega
    have e0 : (0 + (c : Int)) = (c : Int) := by omega
    rw [e0]
    refine ex_weak (ρ' := [("c", .sh (.int (c : Int))), ("red", .sh (matF R C (stM R M c).1)), ("pivots", .own true (pivD (stM R M c).2)), ("top", .sh (.int ((stM R M c).2.length : Int)))]) ⟨rfl, s1, s2, s3, trivial⟩ ?_
    have hsz := st_sz hM c (by omega)
    have hlen := (st_len (R := R) (M := M) c).1
    have hb := hB c hcC
    have hcol := col R M c
    generalize hS : stM R M c = S at hsz hlen hcol
    obtain ⟨N, p⟩ := S
    dsimp only at hsz hlen
    generalize hbb : bd B c = b at hsz hb
    refine ex_cons (ex_assign (.inl rfl) (ev_call rm g2 k2 (evs_cons (ev_name rfl (evs_cons (ev_name rfl (evs_cons (ev_name rfl (evs_cons (ev_tuple (by decide) (evs_cons (ev_int (evs_cons (ev_int (evs_nil ⟨by simp, evs_nil ((c2 N c p.length hcC (by omega)).mono fun d e => ?_)⟩)))))))))))))))
    subst e
    cases hcol with
    | skip h hz hp =>
      rw [hS] at hp h
      dsimp only at hp
      rw [hp]
      refine ex_cons (ex_if (tv_cmp (ev_name rfl (ev_neg (ev_int (co_eqI ?_))))))
      refine ex_cons (ex_continue ?_)
      show SubS _ _
      rw [h]
      exact ⟨rfl, rfl, rfl, trivial⟩
    | piv t h h1 h2 h3 hp =>
      rw [hS] at hp h h1 h3
      dsimp only at hp h1 h3
      rw [hp]
      refine ex_cons (ex_if (tv_cmp (ev_name rfl (ev_neg (ev_int (co_eqI ?_))))))
      rw [beq_eq_false_iff_ne.mpr (by omega)]
      refine ex_nil ?_
      have htop : p.length < R := by omega
      refine ex_cut (fun ρ' => SubS [("red", .sh (matF R C (swapM N p.length t))), ("c", .sh (.int (c : Int))), ("pivots", .own true (pivD p)), ("top", .sh (.int (p.length : Int)))] ρ') (ex_if (tv_cmp (ev_name rfl (ev_name rfl (co_neI ?_))))) ?_
      · by_cases e : t = p.length
        · rw [show (((t : Nat) : Int) != (p.length : Int)) = false by simp [e]]
          refine ex_nil ?_
          rw [e, swapM_self]
          exact ⟨rfl, rfl, rfl, rfl, trivial⟩
        · rw [show (((t : Nat) : Int) != (p.length : Int)) = true by simp; omega]
          refine ex_cons (ex_assign (.inl rfl) (ev_call rm g9 k9 (evs_cons (ev_name rfl (evs_cons (ev_name rfl (evs_cons (ev_name rfl (evs_nil ((c9 N p.length t htop h2).mono fun d e => ?_))))))))))
          subst e
          exact ex_nil ⟨rfl, rfl, rfl, rfl, trivial⟩
      rintro ρ2 ⟨q1, q2, q3, q4, _⟩
      refine ex_weak (ρ' := [("red", .sh (matF R C (swapM N p.length t))), ("c", .sh (.int (c : Int))), ("pivots", .own true (pivD p)), ("top", .sh (.int (p.length : Int)))]) ⟨q1, q2, q3, q4, trivial⟩ ?_
      have z1 := sz_swap hsz htop h2
      have nz : swapM N p.length t p.length c ≠ 0 := by rw [swap_at]; exact h3
      have hstep : stepM R N p.length t c = clearM (scaleM (swapM N p.length t) p.length c) p.length c R := rfl
      rw [hstep] at h
      generalize swapM N p.length t = N1 at z1 nz h
      have z2 := sz_scale z1 htop hcC nz
      have gt : (matL R C N1)[((p.length : Nat) : Int).toNat]? = some (rowF C (N1 p.length)) := mat_get htop
      have gc : ((List.range C).map fun j => fr (N1 p.length j))[((c : Nat) : Int).toNat]? = some (fr (N1 p.length c)) := row_get hcC
      refine ex_cons (ex_assign (.inl rfl) (ev_call rm g10 k10 (evs_cons (ev_name rfl (evs_cons (ev_name rfl (evs_cons (ev_call rm g8 k8 (evs_cons (ev_tuple (by decide) (evs_cons (ev_int (evs_cons (ev_int (evs_nil ⟨by simp, ?_⟩)))))))))))))))
      refine evs_cons (ev_sub (ev_sub (ev_name rfl (ev_name rfl ⟨by omega, by omega, _, gt, ev_name rfl ⟨by omega, by omega, _, gc, ?_⟩⟩))))
      refine evs_nil ((c8 b _ (z1 p.length c htop hcC) (by omega) nz).mono fun d e => ?_)
      subst e
      refine evs_nil ((c10 N1 p.length (1 / N1 p.length c) (1 + b) b htop (sz_div sz_one (z1 p.length c htop hcC) nz) (fun j hj => z1 p.length j htop hj) (by omega)).mono fun d e => ?_)
      subst e
      have hsc : (fun t => if t = p.length then (fun j => 1 / N1 p.length c * N1 p.length j) else N1 t) = scaleM N1 p.length c := rfl
      rw [hsc]
      generalize scaleM N1 p.length c = N2 at z2 h
      refine ex_weak (ρ' := [("red", .sh (matF R C N2)), ("c", .sh (.int (c : Int))), ("pivots", .own true (pivD p)), ("top", .sh (.int (p.length : Int)))]) ⟨rfl, rfl, rfl, rfl, trivial⟩ ?_
      refine ex_cut (fun ρ' => SubS [("red", .sh (matF R C (clearM N2 p.length c R))), ("c", .sh (.int (c : Int))), ("pivots", .own true (pivD p)), ("top", .sh (.int (p.length : Int)))] ρ') (ex_for (.inl rfl) (itn_range1 rm.hh F.bi.range (ev_len F.bi.len (ev_name rfl ⟨by rw [matL_length]; omega, by omega, by rw [matL_length]; omega, ?_⟩)))) ?_
      · rw [matL_length]
        refine ⟨fun i ρ' => SubS [("red", .sh (matF R C (clearM N2 p.length c i))), ("c", .sh (.int (c : Int))), ("pivots", .own true (pivD p)), ("top", .sh (.int (p.length : Int)))] ρ', ?_, ?_, ?_⟩
        · show SubS _ _
          rw [clear_zero]; exact ⟨rfl, rfl, rfl, rfl, trivial⟩
        · rintro i d ρ3 hd ⟨t1, t2, t3, t4, _⟩
          obtain ⟨rfl, hj1, hj2⟩ := rangeL_get hd
          have e0 : (0 + (i : Int)) = (i : Int) := by omega
          rw [e0]
          refine ex_weak (ρ' := [("i", .sh (.int (i : Int))), ("red", .sh (matF R C (clearM N2 p.length c i))), ("c", .sh (.int (c : Int))), ("pivots", .own true (pivD p)), ("top", .sh (.int (p.length : Int)))]) ⟨rfl, t1, t2, t3, t4, trivial⟩ ?_
          have hiR : i < R := by omega
          have gi : (matL R C (clearM N2 p.length c i))[((i : Nat) : Int).toNat]? = some (rowF C (N2 i)) := by rw [← clear_at N2 p.length c i]; exact mat_get hiR
          have gic : ((List.range C).map fun j => fr (N2 i j))[((c : Nat) : Int).toNat]? = some (fr (N2 i c)) := row_get hcC
          refine ex_cons (ex_if (tv_and (tv_cmp (ev_name rfl (ev_name rfl (co_neI ?_))))))
          by_cases hit : i = p.length
          · rw [show (((i : Nat) : Int) != (p.length : Int)) = false by simp [hit]]
            rw [if_neg (by decide)]
            refine ex_nil (ex_nil ?_)
            show SubS _ _
            rw [clear_skip N2 p.length c i (.inl hit)]
            exact ⟨rfl, rfl, rfl, rfl, trivial⟩
          · rw [show (((i : Nat) : Int) != (p.length : Int)) = true by simp; omega]
            rw [if_pos rfl]
            refine tv_cmp (ev_sub (ev_sub (ev_name rfl (ev_name rfl ⟨by omega, by omega, _, gi, ev_name rfl ⟨by omega, by omega, _, gic, ?_⟩⟩))))
            refine ev_tuple (by decide) (evs_cons (ev_int (evs_cons (ev_int (evs_nil ⟨by simp, co_ne rm ?_ ?_⟩)))))
            · have := fr_depth (N2 i c)
              omega
            rw [← fr_zero, fr_eqv]
            by_cases hz : N2 i c = 0
            · rw [decide_eq_true hz]
              refine ex_nil (ex_nil ?_)
              show SubS _ _
              rw [clear_skip N2 p.length c i (.inr hz)]
              exact ⟨rfl, rfl, rfl, rfl, trivial⟩
            · rw [decide_eq_false hz]
              refine ex_cons (ex_assign (.inl rfl) (ev_call rm g11 k11 (evs_cons (ev_name rfl (evs_cons (ev_name rfl (evs_cons (ev_name rfl (evs_cons (ev_call rm g6 k6 (evs_cons (ev_sub (ev_sub (ev_name rfl (ev_name rfl ⟨by omega, by omega, _, gi, ev_name rfl ⟨by omega, by omega, _, gic, evs_nil ((c6 (N2 i c)).mono fun d e => ?_)⟩⟩)))))))))))))))
              subst e
              have hcl := clear_do N2 p.length c i hit
              have ha := clear_at N2 p.length c i
              have ht := clear_top N2 p.length c i
              generalize clearM N2 p.length c i = N3 at hcl ha ht
              refine evs_nil ((c11 N3 i p.length (-(N2 i c)) b b (2 * b + 1) hiR htop (sz_neg (z2.2 i c hiR hcC hit)) (fun j hj => by rw [ha]; exact z2.2 i j hiR hj hit) (fun j hj => by rw [ht]; exact z2.1 j hj) (by omega)).mono fun d e => ?_)
              subst e
              rw [← ha, hcl]
              exact ex_nil (ex_nil ⟨rfl, rfl, rfl, rfl, trivial⟩)
        · rintro ρ3 ⟨t1, t2, t3, t4, _⟩
          rw [rangeL_length] at t1
          have e1 : ((R : Int) - 0).toNat = R := by omega
          rw [e1] at t1
          exact ⟨t1, t2, t3, t4, trivial⟩
      rintro ρ3 ⟨t1, t2, t3, t4, _⟩
      refine ex_weak (ρ' := [("red", .sh (matF R C (clearM N2 p.length c R))), ("c", .sh (.int (c : Int))), ("pivots", .own true (pivD p)), ("top", .sh (.int (p.length : Int)))]) ⟨t1, t2, t3, t4, trivial⟩ ?_
      refine ex_cons (ex_append rfl (by unfold pivD; simp; omega) (ev_name rfl ?_))
      refine ex_cons (ex_assign (.inl rfl) (ev_bin (ev_name rfl (ev_int (bo_add ?_)))))
      refine ex_nil ?_
      show SubS _ _
      rw [h]
      refine ⟨rfl, ?_, ?_, trivial⟩
      · unfold pivD; simp; rfl
      · simp
  · rintro ρ' ⟨s1, s2, s3, _⟩
    rw [rangeL_length] at s1 s2 s3
    have e1 : ((C : Int) - 0).toNat = C := by omega
    rw [e1] at s1 s2 s3
    refine ex_weak (ρ' := [("red", .sh (matF R C (stM R M C).1)), ("pivots", .own true (pivD (stM R M C).2))]) ⟨s1, s2, trivial⟩ ?_
    refine ex_share "pivots" rfl ?_
    exact ex_cons (ex_ret (ev_tuple (by decide) (evs_cons (ev_name rfl (evs_cons (ev_name rfl (evs_nil ⟨by simp, rfl⟩)))))))
end Mine

set_option maxRecDepth 100000
set_option autoImplicit false
set_option linter.unusedVariables false
namespace Mine
/-! ### minors -/
def Z1 (R C : Nat) (M : Nat → Nat → Rat) : Prop := ∀ i j, i < R → j < C → M i j = 0
def Z2 (R C : Nat) (M : Nat → Nat → Rat) : Prop := ∀ i k j q, i < R → k < R → j < C → q < C → M i j * M k q = M i q * M k j
def det3 (M : Nat → Nat → Rat) : Rat := M 0 0 * (M 1 1 * M 2 2 - M 1 2 * M 2 1) - M 0 1 * (M 1 0 * M 2 2 - M 1 2 * M 2 0) + M 0 2 * (M 1 0 * M 2 1 - M 1 1 * M 2 0)
/-- alike: no entry, no 2-minor, no 3-minor parts them -/
structure Alike (R C : Nat) (M N : Nat → Nat → Rat) : Prop where
  z1 : Z1 R C M ↔ Z1 R C N
  z2 : Z2 R C M ↔ Z2 R C N
  z3 : R = 3 → C = 3 → (det3 M = 0 ↔ det3 N = 0)
theorem Alike.refl (R C : Nat) (M : Nat → Nat → Rat) : Alike R C M M := ⟨.rfl, .rfl, fun _ _ => .rfl⟩
theorem Alike.trans {R C : Nat} {M N L : Nat → Nat → Rat} (x : Alike R C M N) (y : Alike R C N L) : Alike R C M L := ⟨x.z1.trans y.z1, x.z2.trans y.z2, fun a b => (x.z3 a b).trans (y.z3 a b)⟩
theorem Alike.symm {R C : Nat} {M N : Nat → Nat → Rat} (x : Alike R C M N) : Alike R C N M := ⟨x.z1.symm, x.z2.symm, fun a b => (x.z3 a b).symm⟩
/-- each row times a number that is not 0 -/
theorem alike_scale {R C : Nat} {M N : Nat → Nat → Rat} (d : Nat → Rat) (hd : ∀ i, i < R → d i ≠ 0) (h : ∀ i j, i < R → j < C → N i j = d i * M i j) : Alike R C M N := by
  refine ⟨⟨fun z i j a b => by rw [h i j a b, z i j a b]; grind, fun z i j a b => ?_⟩, ⟨fun z i k j q a b c e => ?_, fun z i k j q a b c e => ?_⟩, fun hR hC => ?_⟩
  · have := z i j a b
    rw [h i j a b] at this
    have := hd i a
    grind
  · rw [h i j a c, h k q b e, h i q a e, h k j b c]
    have := z i k j q a b c e
    grind
  · have h1 := z i k j q a b c e
    rw [h i j a c, h k q b e, h i q a e, h k j b c] at h1
    have h2 := hd i a
    have h3 := hd k b
    have h4 : d i * d k * (M i j * M k q - M i q * M k j) = 0 := by grind
    have h5 : d i * d k ≠ 0 := by grind
    grind
  · subst hR hC
    have e : det3 N = d 0 * d 1 * d 2 * det3 M := by
      unfold det3
      rw [h 0 0 (by decide) (by decide), h 0 1 (by decide) (by decide), h 0 2 (by decide) (by decide), h 1 0 (by decide) (by decide), h 1 1 (by decide) (by decide), h 1 2 (by decide) (by decide), h 2 0 (by decide) (by decide), h 2 1 (by decide) (by decide), h 2 2 (by decide) (by decide)]
      grind
    have h0 := hd 0 (by decide)
    have h1 := hd 1 (by decide)
    have h2 := hd 2 (by decide)
    rw [e]
    constructor
    · intro z; rw [z]; grind
    · intro z
      have : d 0 * d 1 * d 2 ≠ 0 := by
        have : d 0 * d 1 ≠ 0 := by grind
        grind
      grind
theorem z2_swap {R C : Nat} {M : Nat → Nat → Rat} {i j : Nat} (hi : i < R) (hj : j < R) (z : Z2 R C M) : Z2 R C (swapM M i j) := by
  have hs : ∀ t, ∃ u, (t < R → u < R) ∧ swapM M i j t = M u := fun t => by
    unfold swapM
    by_cases e : t = j
    · exact ⟨i, fun _ => hi, by rw [if_pos e]⟩
    · by_cases e2 : t = i
      · exact ⟨j, fun _ => hj, by rw [if_neg e, if_pos e2]⟩
      · exact ⟨t, id, by rw [if_neg e, if_neg e2]⟩
  intro a b c d ha hb hc hd
  obtain ⟨u, h1, h2⟩ := hs a
  obtain ⟨v, h3, h4⟩ := hs b
  rw [h2, h4]
  exact z u v c d (h1 ha) (h3 hb) hc hd
theorem z1_swap {R C : Nat} {M : Nat → Nat → Rat} {i j : Nat} (hi : i < R) (hj : j < R) (z : Z1 R C M) : Z1 R C (swapM M i j) := by
  intro t c ht hc
  unfold swapM
  by_cases e : t = j
  · rw [if_pos e]; exact z i c hi hc
  · by_cases e2 : t = i
    · rw [if_neg e, if_pos e2]; exact z j c hj hc
    · rw [if_neg e, if_neg e2]; exact z t c ht hc
theorem swap_swap (M : Nat → Nat → Rat) (i j : Nat) : swapM (swapM M i j) i j = M := by
  funext t
  unfold swapM
  by_cases e : t = j
  · subst e
    by_cases e2 : i = t
    · simp [e2]
    · simp [e2]
  · by_cases e2 : t = i
    · subst e2; simp [e]
    · simp [e, e2]
theorem det_swap {M : Nat → Nat → Rat} {i j : Nat} (hi : i < 3) (hj : j < 3) : det3 (swapM M i j) = det3 M ∨ det3 (swapM M i j) = - det3 M := by
  have h1 : i = 0 ∨ i = 1 ∨ i = 2 := by omega
  have h2 : j = 0 ∨ j = 1 ∨ j = 2 := by omega
  rcases h1 with rfl | rfl | rfl <;> rcases h2 with rfl | rfl | rfl <;> simp [det3, swapM] <;> grind
theorem alike_swap {R C : Nat} {M : Nat → Nat → Rat} {i j : Nat} (hi : i < R) (hj : j < R) : Alike R C M (swapM M i j) := by
  refine ⟨⟨z1_swap hi hj, fun z => ?_⟩, ⟨z2_swap hi hj, fun z => ?_⟩, fun hR hC => ?_⟩
  · have := z1_swap hi hj z
    rwa [swap_swap] at this
  · have := z2_swap hi hj z
    rwa [swap_swap] at this
  · subst hR
    rcases det_swap (M := M) hi hj with e | e
    · rw [e]
    · rw [e]; constructor <;> intro h <;> grind
/-- to each row but top a multiple of row top -/
theorem alike_add1 {R C : Nat} {M N : Nat → Nat → Rat} {top : Nat} (lam : Nat → Rat) (ht : top < R) (h : ∀ t j, t < R → N t j = if t = top then M top j else M t j + lam t * M top j) : (Z1 R C M → Z1 R C N) ∧ (Z2 R C M → Z2 R C N) := by
  refine ⟨fun z i j a b => ?_, fun z i k j q a b c e => ?_⟩
  · rw [h i j a]
    by_cases et : i = top
    · rw [if_pos et]; exact z top j ht b
    · rw [if_neg et, z i j a b, z top j ht b]; grind
  · rw [h i j a, h k q b, h i q a, h k j b]
    have h1 := z i k j q a b c e
    have h2 := z i top j q a ht c e
    have h3 := z top k j q ht b c e
    by_cases ei : i = top
    · by_cases ek : k = top
      · simp only [if_pos ei, if_pos ek]; grind
      · simp only [if_pos ei, if_neg ek]; grind
    · by_cases ek : k = top
      · simp only [if_neg ei, if_pos ek]; grind
      · simp only [if_neg ei, if_neg ek]; grind
theorem alike_add {R C : Nat} {M N : Nat → Nat → Rat} {top : Nat} (lam : Nat → Rat) (ht : top < R) (h : ∀ t j, t < R → N t j = if t = top then M top j else M t j + lam t * M top j) : Alike R C M N := by
  have h' : ∀ t j, t < R → M t j = if t = top then N top j else N t j + (- lam t) * N top j := by
    intro t j a
    have e0 := h top j ht
    rw [if_pos rfl] at e0
    by_cases et : t = top
    · rw [if_pos et, e0, et]
    · rw [if_neg et, e0, h t j a, if_neg et]; grind
  refine ⟨⟨(alike_add1 lam ht h).1, (alike_add1 _ ht h').1⟩, ⟨(alike_add1 lam ht h).2, (alike_add1 _ ht h').2⟩, fun hR hC => ?_⟩
  subst hR
  have e : det3 N = det3 M := by
    unfold det3
    rw [h 0 0 (by decide), h 0 1 (by decide), h 0 2 (by decide), h 1 0 (by decide), h 1 1 (by decide), h 1 2 (by decide), h 2 0 (by decide), h 2 1 (by decide), h 2 2 (by decide)]
    have h1 : top = 0 ∨ top = 1 ∨ top = 2 := by omega
    rcases h1 with rfl | rfl | rfl <;> simp <;> grind
  rw [e]
theorem alike_step {R C : Nat} {M : Nat → Nat → Rat} {top t c : Nat} (h1 : top ≤ t) (h2 : t < R) (h3 : M t c ≠ 0) : Alike R C M (stepM R M top t c) := by
  have ht : top < R := by omega
  refine ((alike_swap ht h2).trans (alike_scale (N := scaleM (swapM M top t) top c) (fun i => if i = top then 1 / swapM M top t top c else 1) (fun i _ => ?_) fun i j _ _ => ?_)).trans (alike_add (M := scaleM (swapM M top t) top c) (N := stepM R M top t c) (fun s => -(scaleM (swapM M top t) top c s c)) ht fun s j hs => ?_)
  · by_cases e : i = top
    · simp only [if_pos e]
      rw [swap_at]
      intro z
      have : (1 / M t c) * M t c = 1 := by grind
      rw [z] at this
      grind
    · simp only [if_neg e]; decide
  · unfold scaleM
    by_cases e : i = top
    · subst e; simp
    · simp only [if_neg e]; grind
  · unfold stepM clearM
    by_cases e : s = top
    · subst e; simp
    · rw [if_neg e, if_pos ⟨hs, e⟩]
theorem alike_st (R C : Nat) (M : Nat → Nat → Rat) : ∀ c, Alike R C M (stM R M c).1
  | 0 => .refl _ _ _
  | c + 1 => by
    have ih := alike_st R C M c
    cases col R M c with
    | skip e hz _ => rw [e]; exact ih
    | piv t e h1 h2 h3 _ => rw [e]; exact ih.trans (alike_step h1 h2 h3)
end Mine

set_option maxRecDepth 100000
set_option autoImplicit false
set_option linter.unusedVariables false
namespace Mine
/-- the shape after c columns -/
structure Shape (R c : Nat) (N : Nat → Nat → Rat) (p : List Nat) : Prop where
  len : p.length ≤ R
  lt : ∀ (s x : Nat), p[s]? = some x → x < c
  inc : ∀ (s t x y : Nat), s < t → p[s]? = some x → p[t]? = some y → x < y
  unit : ∀ (s x t : Nat), p[s]? = some x → t < R → N t x = if t = s then 1 else 0
  zero : ∀ t j, p.length ≤ t → t < R → j < c → N t j = 0
theorem shape_st (R : Nat) (M : Nat → Nat → Rat) : ∀ c, Shape R c (stM R M c).1 (stM R M c).2
  | 0 => ⟨Nat.zero_le _, fun s x h => (nomatch h), fun s t x y _ h => (nomatch h), fun s x t h => (nomatch h), fun t j _ _ h => absurd h (Nat.not_lt_zero _)⟩
  | c + 1 => by
    have ih := shape_st R M c
    cases col R M c with
    | skip e hz _ =>
      rw [e]
      refine ⟨ih.len, fun s x h => by have := ih.lt s x h; omega, ih.inc, ih.unit, fun t j h1 h2 h3 => ?_⟩
      by_cases ej : j = c
      · rw [ej]; exact hz t h1 h2
      · exact ih.zero t j h1 h2 (by omega)
    | piv t0 e h1 h2 h3 _ =>
      rw [e]
      generalize (stM R M c).1 = N at *
      generalize (stM R M c).2 = p at *
      have htop : p.length < R := by omega
      -- the swapped matrix
      have hS : ∀ t j, t < R → j < c → p.length ≤ t → swapM N p.length t0 t j = 0 := by
        intro t j ht hj hp
        unfold swapM
        by_cases e1 : t = t0
        · rw [if_pos e1]; exact ih.zero _ _ (Nat.le_refl _) htop hj
        · by_cases e2 : t = p.length
          · rw [if_neg e1, if_pos e2]; exact ih.zero _ _ h1 h2 hj
          · rw [if_neg e1, if_neg e2]; exact ih.zero _ _ hp ht hj
      have hSlow : ∀ t, t < p.length → swapM N p.length t0 t = N t := by
        intro t ht
        unfold swapM
        rw [if_neg (by omega), if_neg (by omega)]
      have hpiv : swapM N p.length t0 p.length c ≠ 0 := by rw [swap_at]; exact h3
      show Shape R (c + 1) (stepM R N p.length t0 c) (p ++ [c])
      unfold stepM
      generalize swapM N p.length t0 = S at *
      -- entries of the result
      have rtop : ∀ j, clearM (scaleM S p.length c) p.length c R p.length j = 1 / S p.length c * S p.length j := by
        intro j
        rw [clear_top]
        unfold scaleM
        rw [if_pos rfl]
      have roth : ∀ t j, t < R → t ≠ p.length → clearM (scaleM S p.length c) p.length c R t j = S t j + -(S t c) * (1 / S p.length c * S p.length j) := by
        intro t j ht hne
        unfold clearM scaleM
        rw [if_pos ⟨ht, hne⟩]
        simp only [if_neg hne, if_pos]
      refine ⟨by simp; omega, fun s x h => ?_, fun s t x y hst hs ht => ?_, fun s x t h ht => ?_, fun t j hp ht hj => ?_⟩
      · rcases List.mem_append.mp (List.mem_of_getElem? h) with q | q
        · obtain ⟨s', hs'⟩ := List.getElem?_of_mem q
          have := ih.lt s' x hs'; omega
        · rw [List.mem_singleton.mp q]; omega
      · by_cases hs' : s < p.length
        · rw [List.getElem?_append_left hs'] at hs
          by_cases ht' : t < p.length
          · rw [List.getElem?_append_left ht'] at ht
            exact ih.inc s t x y hst hs ht
          · rw [List.getElem?_append_right (by omega)] at ht
            have : y = c := by
              have := List.mem_of_getElem? ht
              exact List.mem_singleton.mp this
            rw [this]; exact ih.lt s x hs
        · rw [List.getElem?_append_right (by omega)] at ht
          rw [List.getElem?_eq_none (by simp; omega)] at ht
          cases ht
      · by_cases hs' : s < p.length
        · rw [List.getElem?_append_left hs'] at h
          have hxc := ih.lt s x h
          have z : S p.length x = 0 := hS p.length x htop hxc (Nat.le_refl _)
          by_cases et : t = p.length
          · rw [et, rtop, z, if_neg (by omega)]; grind
          · rw [roth t x ht et, z]
            by_cases etl : t < p.length
            · rw [hSlow t etl]
              have := ih.unit s x t h ht
              rw [this]; split <;> grind
            · rw [hS t x ht hxc (by omega), if_neg (by omega)]; grind
        · rw [List.getElem?_append_right (by omega)] at h
          have hs0 : s = p.length := by
            cases hz : s - p.length with
            | zero => omega
            | succ z => rw [hz] at h; cases h
          have hx : x = c := by
            have := List.mem_of_getElem? h
            exact List.mem_singleton.mp this
          rw [hx, hs0]
          by_cases et : t = p.length
          · rw [et, rtop, if_pos rfl]; grind
          · rw [roth t c ht et, if_neg et]; grind
      · simp only [List.length_append, List.length_singleton] at hp
        have et : t ≠ p.length := by omega
        rw [roth t j ht et]
        by_cases ej : j = c
        · rw [ej]; grind
        · rw [hS t j ht (by omega) (by omega), hS p.length j htop (by omega) (Nat.le_refl _)]; grind
/-- the rank, by minors -/
theorem rank_minors {R C : Nat} (hR : R ≤ 3) (hC : C ≤ 3) (M : Nat → Nat → Rat) :
    ((stM R M C).2.length = 0 ∧ Z1 R C M ∧ Z2 R C M ∧ (R = 3 → C = 3 → det3 M = 0)) ∨
    ((stM R M C).2.length = 1 ∧ ¬ Z1 R C M ∧ Z2 R C M ∧ (R = 3 → C = 3 → det3 M = 0)) ∨
    ((stM R M C).2.length = 2 ∧ ¬ Z2 R C M ∧ (R = 3 → C = 3 → det3 M = 0)) ∨
    ((stM R M C).2.length = 3 ∧ R = 3 ∧ C = 3 ∧ det3 M ≠ 0) := by
  have al := alike_st R C M C
  have sh := shape_st R M C
  generalize (stM R M C).1 = N at *
  generalize (stM R M C).2 = p at *
  have hlen := sh.len
  have h4 : p.length = 0 ∨ p.length = 1 ∨ p.length = 2 ∨ p.length = 3 := by omega
  rcases h4 with h | h | h | h
  · have z1 : Z1 R C N := fun i j hi hj => sh.zero i j (by omega) hi hj
    have z2 : Z2 R C N := fun i k j q hi hk hj hq => by rw [z1 i j hi hj, z1 i q hi hq]; grind
    refine .inl ⟨h, al.z1.mpr z1, al.z2.mpr z2, fun a b => (al.z3 a b).mpr ?_⟩
    subst a b
    unfold det3
    rw [z1 0 0 (by decide) (by decide), z1 0 1 (by decide) (by decide), z1 0 2 (by decide) (by decide)]; grind
  · obtain ⟨x, hx⟩ : ∃ x, p[0]? = some x := ⟨_, List.getElem?_eq_getElem (show 0 < p.length by omega)⟩
    have hxC := sh.lt 0 x hx
    have z : ∀ t j, 1 ≤ t → t < R → j < C → N t j = 0 := fun t j a b c => sh.zero t j (by omega) b c
    have z2 : Z2 R C N := fun i k j q hi hk hj hq => by
      by_cases ei : i = 0
      · by_cases ek : k = 0
        · rw [ei, ek]; grind
        · rw [z k q (by omega) hk hq, z k j (by omega) hk hj]; grind
      · rw [z i j (by omega) hi hj, z i q (by omega) hi hq]; grind
    refine .inr (.inl ⟨h, fun z1 => ?_, al.z2.mpr z2, fun a b => (al.z3 a b).mpr ?_⟩)
    · have h1 := (al.z1.mp z1) 0 x (by omega) hxC
      rw [sh.unit 0 x 0 hx (by omega), if_pos rfl] at h1
      exact absurd h1 (by decide)
    · subst a b
      unfold det3
      rw [z 1 0 (by decide) (by decide) (by decide), z 1 1 (by decide) (by decide) (by decide), z 1 2 (by decide) (by decide) (by decide)]; grind
  · obtain ⟨x, hx⟩ : ∃ x, p[0]? = some x := ⟨_, List.getElem?_eq_getElem (show 0 < p.length by omega)⟩
    obtain ⟨y, hy⟩ : ∃ y, p[1]? = some y := ⟨_, List.getElem?_eq_getElem (show 1 < p.length by omega)⟩
    have hxC := sh.lt 0 x hx
    have hyC := sh.lt 1 y hy
    refine .inr (.inr (.inl ⟨h, fun z2 => ?_, fun a b => (al.z3 a b).mpr ?_⟩))
    · have h1 := (al.z2.mp z2) 0 1 x y (by omega) (by omega) hxC hyC
      rw [sh.unit 0 x 0 hx (by omega), sh.unit 1 y 1 hy (by omega), sh.unit 1 y 0 hy (by omega), sh.unit 0 x 1 hx (by omega)] at h1
      simp at h1
    · subst a b
      unfold det3
      rw [sh.zero 2 0 (by omega) (by decide) (by decide), sh.zero 2 1 (by omega) (by decide) (by decide), sh.zero 2 2 (by omega) (by decide) (by decide)]; grind
  · obtain ⟨x, hx⟩ : ∃ x, p[0]? = some x := ⟨_, List.getElem?_eq_getElem (show 0 < p.length by omega)⟩
    obtain ⟨y, hy⟩ : ∃ y, p[1]? = some y := ⟨_, List.getElem?_eq_getElem (show 1 < p.length by omega)⟩
    obtain ⟨z, hz⟩ : ∃ z, p[2]? = some z := ⟨_, List.getElem?_eq_getElem (show 2 < p.length by omega)⟩
    have hxy := sh.inc 0 1 x y (by decide) hx hy
    have hyz := sh.inc 1 2 y z (by decide) hy hz
    have hzC := sh.lt 2 z hz
    have hR3 : R = 3 := by omega
    have hC3 : C = 3 := by omega
    have ex : x = 0 := by omega
    have ey : y = 1 := by omega
    have ez : z = 2 := by omega
    subst ex ey ez
    refine .inr (.inr (.inr ⟨h, hR3, hC3, fun d => ?_⟩))
    have d' := (al.z3 hR3 hC3).mp d
    unfold det3 at d'
    rw [sh.unit 0 0 0 hx (by omega), sh.unit 0 0 1 hx (by omega), sh.unit 0 0 2 hx (by omega), sh.unit 1 1 0 hy (by omega), sh.unit 1 1 1 hy (by omega), sh.unit 1 1 2 hy (by omega), sh.unit 2 2 0 hz (by omega), sh.unit 2 2 1 hz (by omega), sh.unit 2 2 2 hz (by omega)] at d'
    simp at d'
    exact absurd d' (by grind)
end Mine

set_option maxRecDepth 100000
set_option autoImplicit false
set_option linter.unusedVariables false
namespace Mine
open PySem PySem.W PySem.Calls PyProof.Rows PySem.Spec
/-! ### a generator of bools and any() -/
/-- what a run of the generator may have changed -/
def Snc (C I a : Addr) (s₀ s : Shared) : Prop := ∃ h' tk, s = { s₀ with heap := h', toks := tk } ∧ ∀ b o, b ≤ a → b ≠ C → b ≠ I → s₀.heap.get? b = some o → h'.get? b = some o
theorem Snc.refl (C I a : Addr) (s : Shared) : Snc C I a s s := ⟨s.heap, s.toks, rfl, fun _ _ _ _ _ e => e⟩
theorem Snc.step {C I a : Addr} {s₀ s : Shared} (x : Snc C I a s₀ s) {h' : Heap} {tk : Nat} (hk : ∀ b o, b ≤ a → b ≠ C → b ≠ I → s.heap.get? b = some o → h'.get? b = some o) : Snc C I a s₀ { s with heap := h', toks := tk } := by
  obtain ⟨h₁, tk₁, rfl, hk₁⟩ := x
  exact ⟨h', tk, rfl, fun b o h1 h2 h3 e => hk b o h1 h2 h3 (hk₁ b o h1 h2 h3 e)⟩
def YP (bs : List Bool) (C I a : Addr) : Protocol := fun m s₀ v s kap =>
  (∃ b, bs[bs.length - 1 - m]? = some b ∧ v = .bool b) ∧ Snc C I a s₀ s ∧ ∀ s'' : Shared, Kp s.heap s''.heap → kap (.send .none) s''
def RP (C I a : Addr) : Nat → Shared → Shared → Prop := fun n s₀ s₁ => n = 0 ∧ Snc C I a s₀ s₁
def GA (prog : Program) (w : World) (A : Around) (a : Addr) (g : Nat) (C I : Addr) (bs : List Bool) (j : Nat) (s : Shared) : Prop :=
  s.heap.IsGen a g ∧ s.heap.NoLimit ∧ ∃ gs, s.gens[g]? = some gs ∧ ∀ s'' : Shared, Kp s.heap s''.heap →
    gs.Goes (model prog w) A.in1 (fun n s₀ r s₁ => r = .ok .next ∧ RP C I a n s₀ s₁) (YP bs C I a) (bs.length - j) (.send .none) s''
/-- the state after any() -/
structure Fin1 (C I a : Addr) (g : Nat) (s s' : Shared) : Prop where
  heap : ∀ b o, b ≤ a → b ≠ C → b ≠ I → s.heap.get? b = some o → s'.heap.get? b = some o
  gens : GenOnlyQ g s.gens s'.gens
  os : s'.os = s.os
theorem Fin1.trans {C I a : Addr} {g : Nat} {x y z : Shared} (p : Fin1 C I a g x y) (q : Fin1 C I a g y z) : Fin1 C I a g x z := ⟨fun b o h1 h2 h3 e => q.heap b o h1 h2 h3 (p.heap b o h1 h2 h3 e), p.gens.trans q.gens, q.os.trans p.os⟩
section
variable {prog : Program} {w : World} {A : Around} {a C I : Addr} {g : Nat} {bs : List Bool}
theorem any_loop (hh : A.handled = none) (hroom : A.in1.depth < recursionLimit) (haC : a ≠ C) (haI : a ≠ I) (hc : cStatics ≤ a) (hcC : cStatics ≠ C) (hcI : cStatics ≠ I) {R : Result → Shared → Prop} : ∀ (k j : Nat) (s : Shared), bs.length - j = k → j ≤ bs.length → GA prog w A.in1 a g C I bs j s →
    (∀ s', Fin1 C I a g s s' → R (.ok (.ret (.bool ((bs.drop j).any id)))) s') → codeAny (model prog w) A (.builtin "any.loop" ⟨[.ref a], []⟩) R s := by
  intro k
  induction k with
  | zero =>
    intro j s hk hj ga hR
    have hjn : j = bs.length := by omega
    subst hjn
    obtain ⟨hg, hl, gs, hgs, hgo⟩ := ga
    rw [Nat.sub_self] at hgo
    refine codeAny_builtin F.entry_any_loop ?_
    rw [Around.under_plainId F.plain_any_loop _]
    show wpAny _ A.in1 (pyNext (.ref a) >>= _) _ _ s
    refine wpAny_bind (wpAny_pyNext_genexpQ (P := RP C I a) hh hl hroom hg hgs (hgo _ (.refl _)) (fun v s₁ gs' hb hv => ?_) (fun s₁ hp h' hk => ?_))
    · obtain ⟨_, _, hkap⟩ := hv
      exact False.elim (hkap s₁ (.refl _))
    · obtain ⟨_, h₁, tk₁, rfl, hk₁⟩ := hp
      refine wpAny_bind (wpAny_rule (wpAny_pure ?_))
      have := hR { ({ s.setGen g .running with heap := h₁, toks := tk₁ } : Shared).setGen g .finished with heap := h' } ⟨fun b o h1 h2 h3 e => hk b o (hk₁ b o h1 h2 h3 e), GenOnlyQ.of ((GenOnly.setGen s g .running).trans (GenOnly.setGen _ g .finished)) (setGen_self (gs := .running) (setGen_self hgs)) rfl, rfl⟩
      rw [List.drop_length] at this
      exact this
  | succ k ih =>
    intro j s hk hj ga hR
    have hlt : j < bs.length := by omega
    obtain ⟨hg, hl, gs, hgs, hgo⟩ := ga
    obtain ⟨m, hm⟩ : ∃ m, bs.length - j = m + 1 := ⟨k, hk⟩
    rw [hm] at hgo
    refine codeAny_builtin F.entry_any_loop ?_
    rw [Around.under_plainId F.plain_any_loop _]
    show wpAny _ A.in1 (pyNext (.ref a) >>= _) _ _ s
    refine wpAny_bind (wpAny_pyNext_genexpQ (P := RP C I a) hh hl hroom hg hgs (hgo _ (.refl _)) (fun v s₁ gs' hb hv => ?_) (fun s₁ hp h' hk => ?_))
    · obtain ⟨⟨b, hbj, rfl⟩, ⟨h₁, tk₁, rfl, hk₁⟩, hkap⟩ := hv
      have hidx : bs.length - 1 - (m + 1 - 1) = j := by omega
      rw [hidx] at hbj
      have f1 : Fin1 C I a g s (({ s.setGen g .running with heap := h₁, toks := tk₁ } : Shared).setGen g gs') := ⟨fun b o h1 h2 h3 e => hk₁ b o h1 h2 h3 e, GenOnlyQ.of ((GenOnly.setGen s g .running).trans (GenOnly.setGen _ g gs')) (setGen_self (gs := .running) (setGen_self hgs)) hb, rfl⟩
      have hdrop : bs.drop j = b :: bs.drop (j + 1) := by
        rw [List.drop_eq_getElem_cons hlt]
        congr 1
        rw [List.getElem?_eq_getElem hlt] at hbj
        exact Option.some.inj hbj
      refine wpAny_bind (wpAny_holding (wpAny_truthy_bool ?_))
      refine wpAny_bind (wpAny_letGo ?_)
      cases b with
      | false =>
        simp only [Bool.false_eq_true, if_false]
        refine wpAny_pure ⟨plainId_quiet F.plain_any_loop _, ih (j + 1) _ (by omega) hlt ⟨?_, ?_, gs', setGen_self (gs := .running) (setGen_self hgs), fun s'' hal => ?_⟩ fun s' f2 => ?_⟩
        · obtain ⟨o, nm, qn, ho, r⟩ := hg
          exact ⟨o, nm, qn, hk₁ a o (Nat.le_refl _) haC haI ho, r⟩
        · obtain ⟨mc, hns, hnn⟩ := hl
          exact ⟨mc, hns.at' fun o e => hk₁ cStatics o hc hcC hcI e, hnn⟩
        · have e : bs.length - (j + 1) = m := by omega
          rw [e]
          exact hkap s'' hal
        · have := hR s' (f1.trans f2)
          rw [hdrop] at this
          simpa using this
      | true =>
        simp only [if_true]
        refine wpAny_bind (wpAny_rule (wpAny_pure ?_))
        have := hR _ f1
        rw [hdrop] at this
        simpa using this
    · exact absurd hp.1 (Nat.succ_ne_zero m)
theorem any_gen {E : Value → Shared → Prop} {s : Shared} {Q : Value → Shared → Prop} (hh : A.handled = none) (hroom : A.in1.depth < recursionLimit) (haC : a ≠ C) (haI : a ≠ I) (hc : cStatics ≤ a) (hcC : cStatics ≠ C) (hcI : cStatics ≠ I) (ga : GA prog w A.in1 a g C I bs 0 s)
    (q : ∀ s', Fin1 C I a g s s' → Q (.bool (bs.any id)) s') : wpAny (model prog w) A (call (.builtin "any") [.ref a]) Q E s := by
  refine call_function_tree F.kind_any F.plain_any F.entry_any (F.args_any1 _) ?_
  unfold Builtin.«any»
  refine wpAny_bind (m := oneArg "any" _) (wpAny_pure ?_)
  refine wpAny_bind (wpAny_pyIter_gen ga.1 ?_)
  exact wpAny_pure ⟨plainId_quiet F.plain_any_loop _, any_loop hh hroom haC haI hc hcC hcI _ 0 s rfl (Nat.zero_le _) ga fun s' f => q s' f⟩
end
end Mine

set_option maxRecDepth 100000
set_option autoImplicit false
set_option linter.unusedVariables false
namespace Mine
open PySem PySem.W PySem.Calls PyProof.Rows PySem.Spec
/-! ### a generator expression is made -/
structure Made (P c : Addr) (env : Env) (scope : Scope) (cl : List (Str × Addr)) (e : Expr) (l : Addr) (vs : List Value) (s₁ s : Shared) (I C a : Addr) (g : Nat) (code : Value) : Prop where
  ge : I = s₁.heap.objs.size
  ic : I < C
  ca : C < a
  gen : s.heap.IsGen a g
  gs : s.gens = s₁.gens.push (.fresh (.compStart e 0 (.ref I) .none (genEnv scope cl C code builtinsNs env)))
  gg : g = s₁.gens.size
  ns : s.heap.Ns C (fun y => if y = (".0" : Str) then some (.ref I) else none)
  it : s.heap.IsListIter I l 0
  ls : s.heap.IsList l vs.toArray
  keep : ∀ b o, b ≠ P → s₁.heap.get? b = some o → s.heap.get? b = some o
  tab : ∃ more, s.heap.TableAt c P (#[] ++ more)
  lim : s.heap.NoLimit
  os : s.os = s₁.os
section
variable {prog : Program} {w : World} {A : Around} {E : Value → Shared → Prop} {s : Shared}
theorem eval_gens (elt target iter : Expr) (more : List Comprehension) (scope : Scope) (pos : Pos) (env : Env) (hco : scope.isCoroutine = false) :
    eval (.GeneratorExp elt (⟨target, iter, [], 0⟩ :: more) scope pos) env = (do
      let x ← eval iter env
      standAt iter.pos
      let x ← genFold iter env x
      let it ← holding [x] (pyIter x)
      enterFrame
      let cl ← closureFor scope env
      let code ← genexprCode env pos (env.qual ++ "<genexpr>") scope
      let bi ← builtinsFor env.globals env.builtins
      let cenv ← newFunctionEnv scope env.globals cl [(".0", it)] (env.qual ++ "<genexpr>.") none code none bi
      newGenerator (.compStart (.GeneratorExp elt (⟨target, iter, [], 0⟩ :: more) scope pos) 0 it .none cenv) "<genexpr>" (env.qual ++ "<genexpr>")) := by
  rw [arm_eval_GeneratorExp]
  simp only [hco, Bool.false_eq_true, if_false]
  cases iter <;> rfl
theorem gen_make {env : Env} {elt target iter : Expr} {more : List Comprehension} {scope : Scope} {cl : List (Str × Addr)} {pos : Pos} {Q : Value → Shared → Prop} {c P : Addr}
    (hco : scope.isCoroutine = false) (hclos : closureFor scope env = pure cl) (hcell : ∀ y ∈ scope.names, y.2 ≠ .cell) (h0 : scope.names.lookup (".0" : Str) = some NameKind.local) (hkind : scope.kind = .function)
    (hroom : A.depth < recursionLimit) (hcode : env.code = .ref c) (hPs : cStatics ≠ P) (hPg : env.globals ≠ P)
    (h : wpAny (model prog w) A (eval iter env) (fun xv s₁ => ∃ l vs mg bm ob, xv = .ref l ∧ s₁.heap.IsList l vs.toArray ∧ s₁.heap.IsCode c P #[] ∧ s₁.heap.TableAt c P #[] ∧ s₁.heap.NoLimit ∧ BMod s₁.heap env.globals mg bm ob ∧ bm ≠ P ∧
      ∀ s₂ I C a g code, Made P c env scope cl (.GeneratorExp elt (⟨target, iter, [], 0⟩ :: more) scope pos) l vs s₁ s₂ I C a g code → Q (.ref a) s₂) E s)
    (hs : ∀ x, genFold iter env x = pure x) :
    wpAny (model prog w) A (eval (.GeneratorExp elt (⟨target, iter, [], 0⟩ :: more) scope pos) env) Q E s := by
  rw [eval_gens _ _ _ _ _ _ _ hco, hclos]
  refine wpAny_bind (wpAny_mono h (fun xv s₁ h₁ => ?_) fun _ _ e => e)
  obtain ⟨l, vs, mg, bm, ob, rfl, hl, hcd, htb, hlim, hb, hbP, hQ⟩ := h₁
  refine wpAny_bind (wpAny_standAt ?_)
  refine wpAny_bind (wpAny_of_eq (hs _) ?_)
  refine wpAny_bind (wpAny_holding (wpAny_pyIter_list hl ?_))
  have k₁ := Kp.push s₁.heap { cls := .type "list_iterator", data := .fields #[.ref l, .int 0 0] }
  refine wpAny_bind (wpAny_enterFrame (hlim.push _) hroom ?_)
  refine wpAny_bind (wpAny_pure ?_)
  refine wpAny_bind (wpAny_genexprCodeX hcode (hcd.push _) (htb.push _) rfl fun code h₃ tk₃ hx₃ _ _ hcd₃ _ htb₃ _ => ?_)
  have hb₁ := hb.keeps k₁
  have hlP : l ≠ P := fun e => by
    obtain ⟨o, ho, _, n, hd⟩ := hl
    obtain ⟨_, _, _, _, _, _, _, _, _, op, _, _, _, _, _, _, _, hop, hpd, _⟩ := hcd
    rw [e, hop] at ho; cases ho; rw [hpd] at hd; cases hd
  have hIP : s₁.heap.objs.size ≠ P := fun e => by
    obtain ⟨_, _, _, _, _, _, _, _, _, op, _, _, _, _, _, _, _, hop, _⟩ := hcd
    have := Heap.lt_size hop
    rw [← e] at this
    exact Nat.lt_irrefl _ this
  have hb₃ : BMod h₃ env.globals mg bm ob := ⟨hb₁.ns.extBut hx₃ hPg, hb₁.name, hb₁.ne, hx₃ _ _ hbP hb₁.obj, hb₁.cls, hb₁.dict, hb₁.data⟩
  refine wpAny_bind (wpAny_builtinsFor hb₃.ns hb₃.name hb₃.ne hb₃.obj hb₃.cls hb₃.dict hb₃.data ?_)
  have hI₃ : h₃.get? s₁.heap.objs.size = some { cls := .type "list_iterator", data := .fields #[.ref l, .int 0 0] } := hx₃ _ _ hIP (Heap.get?_push_size _ rfl)
  have hbinds : ∀ y ∈ ([((".0" : Str), Value.ref s₁.heap.objs.size)] : List (Str × Value)), scope.names.lookup y.1 = some NameKind.local := fun y hy => (List.mem_singleton.mp hy) ▸ h0
  refine wpAny_bind (wpAny_newFunctionEnv hcell hbinds (fun h' hn' hs' => ?_) hkind)
  have e0 : (fun y : Str => ([((".0" : Str), Value.ref s₁.heap.objs.size)] : List (Str × Value)).reverse.lookup y) = fun y : Str => if y = (".0" : Str) then some (.ref s₁.heap.objs.size) else none := funext fun y => by
    show List.lookup y ((".0", Value.ref s₁.heap.objs.size) :: []) = _
    rw [List.lookup_cons]
    split
    · next q => rw [if_pos (beq_iff_eq.mp q)]
    · next q => rw [if_neg (beq_eq_false_iff_ne.mp q)]; rfl
  rw [e0] at hn'
  simp only [newGenerator, newFields]
  refine wpAny_bind (wpAny_newGen (wpAny_bind (wpAny_mkText (wpAny_bind (wpAny_mkText (wpAny_newObj_type ?_ (by size_fits)))))))
  have hsz : h'.objs.size = h₃.objs.size + 1 := by rw [hs'.1, Heap.size_push]
  have keep' : ∀ b o, h₃.get? b = some o → h'.get? b = some o := fun b o e => hs'.extBut b o (Nat.ne_of_lt (Heap.lt_size e)) (Heap.get?_push_of_some _ e)
  have hlim₃ : h₃.NoLimit := (hlim.push _).extBut hx₃ hPs
  refine hQ _ s₁.heap.objs.size h₃.objs.size h'.objs.size s₁.gens.size (.ref code) ⟨rfl, Heap.lt_size hI₃, ?_, ⟨_, _, _, Heap.get?_push_size _ rfl, rfl, rfl, rfl⟩, rfl, rfl, hn'.push _, ?_, ?_, fun b o hb e => Heap.get?_push_of_some _ (keep' b o (hx₃ b o hb (Heap.get?_push_of_some _ e))), ?_, (hlim₃.keeps keep').push _, rfl⟩
  · show (h₃.objs.size : Nat) < h'.objs.size
    omega
  · exact ⟨_, Heap.get?_push_of_some _ (keep' _ _ hI₃), rfl, rfl⟩
  · have hl₃ : h₃.IsList l vs.toArray := (hl.push _).extBut hx₃ hlP
    exact (hl₃.at fun o e => keep' l o e).push _
  · exact ⟨_, (htb₃.keeps keep').push _⟩
end
end Mine

set_option maxRecDepth 100000
set_option autoImplicit false
set_option linter.unusedVariables false
namespace Mine
open PySem PySem.W PySem.Calls PyProof.Rows PySem.Spec
section
variable {prog : Program} {w : World}
/-- the turn of the last clause -/
def lastTurn (e : Expr) (k : Nat) (x : Str) (px ip : Pos) (elt : Expr) (it : Value) (env : Env) : Sem Fin := do
  standAt ip
  match ← pyNext it with
  | none => pure (.done .next)
  | some v =>
    letOwnedTupleGo (.Name x px) it v
    assign (.Name x px) env v
    (do let v ← eval elt env; standAt elt.pos; let _ ← yieldOut env v)
    again (.compLoop e k it .none env)
theorem seg_last {B : Around} {e elt : Expr} {k : Nat} {x : Str} {px ip : Pos} {cenv : Env} {I' l' C I a : Addr} {us : Array Value} {bs : List Bool} {fs : List Frame} {href : Heap} (bv : Nat → Bool) (X : Heap → Prop) (q n₁ : Nat)
    (hturn : compTurn e k (.ref I') .none cenv = lastTurn e k x px ip elt (.ref I') cenv)
    {H₀ : Value → Sem Unit} (hden : (model prog w).den (.compLoop e k (.ref I') .none cenv) = (compTurn e k (.ref I') .none cenv).onRaise H₀)
    (hh : (B.over (.compLoop e k (.ref I') .none cenv) fs).handled = none) (hfs : splitAtGen fs = none) (hfg : fs.any Frame.guarded = false)
    (hquiet : (Code.compLoop e k (.ref I') .none cenv).quiet = true)
    (hx : cenv.kindOf x = some .local) (hp : (cenv.scope.kind == .class || (cenv.scope.kind == .module && cenv.locals != cenv.globals)) = false) (hco : cenv.scope.isCoroutine = false) (hC : cenv.locals = C)
    (hIC : I' ≠ C) (hI : I' = I ∨ a < I') (hr : ∀ b o, href.get? b = some o → b ≤ a ∧ b ≠ C ∧ b ≠ I ∧ b ≠ I') (hl : href.IsList l' us)
    (hX : ∀ h h', X h → (∀ b o, b ≠ C → b ≠ I' → h.get? b = some o → h'.get? b = some o) → X h')
    (hbs : ∀ i, i < us.size → bs[q + i]? = some (bv i)) (hq : q + us.size + n₁ = bs.length)
    (hel : ∀ i v (t : Shared) m₂, us[i]? = some v → t.heap.Ns C m₂ → m₂ x = some v → Kp href t.heap → ∀ (Q' E' : Value → Shared → Prop), (∀ t', Keeps t t' → Q' (.bool (bv i)) t') → wpAny (model prog w) (B.over (.compLoop e k (.ref I') .none cenv) fs) (eval elt cenv) Q' E' t)
    (hend : ∀ (s₀ s : Shared) m, Kp href s.heap → s.heap.Ns C m → Snc C I a s₀ s → X s.heap → Seg (model prog w) B (fun n s₀ r s₁ => r = .ok .next ∧ RP C I a n s₀ s₁) (YP bs C I a) n₁ s₀ (.compLoop e k (.ref I') .none cenv) (leafOf (.ok .next)) fs s) :
    ∀ (r i : Nat) (s₀ s : Shared) (m : Str → Option Value), us.size - i = r → i ≤ us.size → s.heap.IsListIter I' l' i → s.heap.Ns C m → Snc C I a s₀ s → Kp href s.heap → X s.heap →
      Seg (model prog w) B (fun n s₀ r s₁ => r = .ok .next ∧ RP C I a n s₀ s₁) (YP bs C I a) (r + n₁) s₀ (.compLoop e k (.ref I') .none cenv) ((model prog w).den (.compLoop e k (.ref I') .none cenv)) fs s := by
  have hl'I : l' ≠ I' := fun z => by
    obtain ⟨o, ho, _⟩ := hl
    exact (hr _ _ ho).2.2.2 z
  have okI : ∀ b : Addr, b ≤ a → b ≠ I → b ≠ I' := fun b h1 h2 z => by
    rcases hI with h | h
    · exact h2 (z.trans h)
    · rw [z] at h1; exact absurd h (Nat.not_lt.mpr h1)
  have Wk := Walks.list (prog := prog) (w := w) hh I' l' hl'I us
  intro r
  induction r with
  | zero =>
    intro i s₀ s m hk hi hit hn hsince hkp hx0
    have hin : i = us.size := by omega
    subst hin
    rw [hden, hturn, Nat.zero_add]
    unfold lastTurn
    rw [Sem.onRaise_eq_wrap]
    refine seg_bind_wrap (wpAny_standAt ?_)
    refine seg_bind_wrap (Wk.done s _ _ ⟨hit, hl.at fun o e => hkp _ o e⟩ fun h' tk hk' => ?_)
    have b' : ∀ b o, b ≠ I' → s.heap.get? b = some o → h'.get? b = some o := fun b o hb e => hk' b o (by simpa using hb) e
    exact hend s₀ _ m (fun b o e => b' b o (hr b o e).2.2.2 (hkp b o e)) (hn.at' fun o e => b' _ o (Ne.symm hIC) e) (hsince.step fun b o h1 h2 h3 e => b' b o (okI b h1 h3) e) (hX _ _ hx0 fun b o h1 h2 e => b' b o h2 e)
  | succ r ih =>
    intro i s₀ s m hk hi hit hn hsince hkp hx0
    have hlt : i < us.size := by omega
    rw [hden, hturn]
    unfold lastTurn
    rw [Sem.onRaise_eq_wrap]
    refine seg_bind_wrap (wpAny_standAt ?_)
    refine seg_bind_wrap (Wk.item i s _ _ hlt ⟨hit, hl.at fun o e => hkp _ o e⟩ fun v h₁ tk₁ hPv hst₁ hk₁ => ?_)
    have b₁ : ∀ b o, b ≠ I' → s.heap.get? b = some o → h₁.get? b = some o := fun b o hb e => hk₁ b o (by simpa using hb) e
    refine seg_bind_wrap (wpAny_of_eq (rfl : letOwnedTupleGo (.Name x px) (.ref I') v = pure ()) ?_)
    have hn₁ : h₁.Ns cenv.locals m := by rw [hC]; exact hn.at' fun o e => b₁ _ o (Ne.symm hIC) e
    refine seg_bind_wrap (wpAny_assign_Name (wpAny_storeName_local hx hn₁ (fun h₂ hn₂ hs₂ => ?_) hp))
    rw [hC] at hn₂ hs₂
    have b₂ : ∀ b o, b ≠ C → b ≠ I' → s.heap.get? b = some o → h₂.get? b = some o := fun b o h1 h2 e => hs₂.extBut b o h1 (b₁ b o h2 e)
    have kp₂ : Kp href h₂ := fun b o e => b₂ b o (hr b o e).2.1 (hr b o e).2.2.2 (hkp b o e)
    have it₂ : h₂.IsListIter I' l' (i + 1) := hst₁.1.at fun o e => hs₂.extBut I' o hIC e
    have x₂ : X h₂ := hX _ _ hx0 b₂
    have hy : ∀ v, yieldOut cenv v = yieldValue v := fun v => by simp only [yieldOut, hco, Bool.false_eq_true, if_false]
    simp only [hy]
    rw [Sem.bind_eq_wrap', Sem.bind_eq_wrap', Sem.wrap_wrap, Sem.wrap_wrap]
    refine seg_wrap (hel i v _ _ hPv hn₂ (by simp) kp₂ _ _ fun t' hkeep => ?_)
    obtain ⟨h₄, tk₄, rfl, hk₄⟩ := hkeep
    have e1 : r + 1 + n₁ = (r + n₁) + 1 := by omega
    rw [e1]
    refine seg_at (seg_yield hfs rfl hfg ⟨⟨bv i, ?_, rfl⟩, (hsince.step (h' := h₂) (tk := tk₁) fun b o h1 h2 h3 e => b₂ b o h2 (okI b h1 h3) e).step fun b o h1 h2 h3 e => hk₄ b o e, fun s'' hal => ?_⟩)
    · have e2 : bs.length - 1 - (r + n₁) = q + i := by omega
      rw [e2]; exact hbs i hlt
    · have k4 : Kp h₂ s''.heap := fun b o e => hal b o (hk₄ b o e)
      refine seg_again hquiet (ih (i + 1) s'' s'' _ (by omega) hlt (it₂.at fun o e => k4 _ o e) (hn₂.keeps k4) (Snc.refl _ _ _ _) (kp₂.trans k4) (hX _ _ x₂ fun b o _ _ e => k4 b o e))
end
end Mine

set_option maxRecDepth 100000
set_option autoImplicit false
set_option linter.unusedVariables false
namespace Mine
open PySem PySem.W PySem.Calls PyProof.Rows PySem.Spec
section
variable {prog : Program} {w : World}
theorem turn_one (elt iter : Expr) (x : Str) (px : Pos) (scope : Scope) (pos : Pos) (it : Value) (env : Env) :
    compTurn (.GeneratorExp elt [⟨.Name x px, iter, [], 0⟩] scope pos) 0 it .none env = lastTurn (.GeneratorExp elt [⟨.Name x px, iter, [], 0⟩] scope pos) 0 x px iter.pos elt it env := rfl
theorem turn_in (elt iter iter' : Expr) (x y : Str) (px py : Pos) (scope : Scope) (pos : Pos) (it : Value) (env : Env) :
    compTurn (.GeneratorExp elt [⟨.Name x px, iter, [], 0⟩, ⟨.Name y py, iter', [], 0⟩] scope pos) 1 it .none env = lastTurn (.GeneratorExp elt [⟨.Name x px, iter, [], 0⟩, ⟨.Name y py, iter', [], 0⟩] scope pos) 1 y py iter'.pos elt it env := rfl
theorem turn_out (elt iter : Expr) (x y z : Str) (px py pz : Pos) (scope : Scope) (pos : Pos) (it : Value) (env : Env) :
    compTurn (.GeneratorExp elt [⟨.Name x px, iter, [], 0⟩, ⟨.Name y py, .Name z pz, [], 0⟩] scope pos) 0 it .none env = (do
      standAt iter.pos
      match ← pyNext it with
      | none => pure (.done .next)
      | some v =>
        letOwnedTupleGo (.Name x px) it v
        assign (.Name x px) env v
        let u ← eval (.Name z pz) env
        standAt pz
        let u ← foldedSetIterable (.Name z pz) env u
        let it' ← holding [u] (pyIter u)
        let _ ← runOwn (.compStart (.GeneratorExp elt [⟨.Name x px, iter, [], 0⟩, ⟨.Name y py, .Name z pz, [], 0⟩] scope pos) 1 it' .none env) env
        again (.compLoop (.GeneratorExp elt [⟨.Name x px, iter, [], 0⟩, ⟨.Name y py, .Name z pz, [], 0⟩] scope pos) 0 it .none env)) := rfl
/-- a clause starts -/
theorem seg_start {B : Around} {R : GenEnd} {Y : Protocol} {n k : Nat} {s₀ s : Shared} {fs : List Frame} {e : Expr} {I l : Addr} {cenv : Env} {g : Comprehension}
    (hh : (B.over (.compStart e k (.ref I) .none cenv) fs).handled = none) (hg : (clausesOf e)[k]? = some g) (ha : g.is_async = 0)
    {H₀ : Value → Sem Unit} (hden : (model prog w).den (.compStart e k (.ref I) .none cenv) = (compStart e k (.ref I) .none cenv).onRaise H₀)
    (hquiet : (Code.compLoop e k (.ref I) .none cenv).quiet = true) (hit : s.heap.IsListIter I l 0)
    (loop : Seg (model prog w) B R Y n s₀ (.compLoop e k (.ref I) .none cenv) ((model prog w).den (.compLoop e k (.ref I) .none cenv)) fs s) :
    Seg (model prog w) B R Y n s₀ (.compStart e k (.ref I) .none cenv) ((model prog w).den (.compStart e k (.ref I) .none cenv)) fs s := by
  rw [hden]
  unfold compStart
  rw [hg]
  simp only [Option.elim_some, ha]
  rw [Sem.onRaise_eq_wrap]
  show Seg _ B _ _ _ s₀ _ ((ask >>= _).wrap _ _ _ _) fs s
  refine seg_bind_wrap (wpAny_askSetting ?_)
  split
  · exact seg_again hquiet loop
  · refine seg_bind_wrap (wpAny_rule ?_)
    refine seg_bind_wrap (wpAny_standAt ?_)
    exact seg_bind_wrap (wpAny_pyIter_listiter hit (seg_again hquiet loop))
/-- the generator of one clause, new -/
theorem ga_one {A : Around} {P c : Addr} {env : Env} {elt iter : Expr} {x : Str} {px pos : Pos} {scope : Scope} {cl : List (Str × Addr)} {l : Addr} {vs : List Value} {s₁ s : Shared} {I C a : Addr} {g : Nat} {code : Value} {href : Heap} (bv : Nat → Bool)
    (Md : Made P c env scope cl (.GeneratorExp elt [⟨.Name x px, iter, [], 0⟩] scope pos) l vs s₁ s I C a g code) (hA : A.handled = none)
    (hx : scope.names.lookup x = some .local) (hkind : scope.kind = .function) (hco : scope.isCoroutine = false)
    (hkp : Kp href s.heap) (hlt : ∀ b o, href.get? b = some o → b < I) (hl : href.IsList l vs.toArray)
    (hel : ∀ (i : Nat) (v : Value) (t : Shared) m₂ (A' : Around), A'.handled = none → A'.units ≤ A.in1.units + 10 → vs[i]? = some v → t.heap.Ns C m₂ → m₂ x = some v → Kp href t.heap → ∀ (Q' E' : Value → Shared → Prop), (∀ t', Keeps t t' → Q' (.bool (bv i)) t') → wpAny (model prog w) A' (eval elt (genEnv scope cl C code builtinsNs env)) Q' E' t) :
    GA prog w A a g C I ((List.range vs.length).map bv) 0 s := by
  have hCI : C ≠ I := Nat.ne_of_gt Md.ic
  have haC : a ≠ C := Nat.ne_of_gt Md.ca
  have hgs : s.gens[g]? = some (.fresh (.compStart (.GeneratorExp elt [⟨.Name x px, iter, [], 0⟩] scope pos) 0 (.ref I) .none (genEnv scope cl C code builtinsNs env))) := by rw [Md.gs, Md.gg]; exact Array.getElem?_push_size ..
  refine ⟨Md.gen, Md.lim, _, hgs, fun s'' hal => ⟨rfl, ?_⟩⟩
  have hn : s''.heap.Ns C _ := Md.ns.keeps hal
  have hit := Md.it.at fun o e => hal I o e
  have hr : ∀ b o, href.get? b = some o → b ≤ a ∧ b ≠ C ∧ b ≠ I ∧ b ≠ I := fun b o e => by
    have h1 := hlt b o e
    have h2 : b < C := Nat.lt_trans h1 Md.ic
    exact ⟨Nat.le_of_lt (Nat.lt_trans h2 Md.ca), Nat.ne_of_lt h2, Nat.ne_of_lt h1, Nat.ne_of_lt h1⟩
  rw [Nat.sub_zero, List.length_map, List.length_range]
  have hsz : vs.toArray.size = vs.length := by simp
  refine seg_start (k := 0) (g := ⟨.Name x px, iter, [], 0⟩) (show A.in1.handled = none from hA) rfl rfl rfl rfl hit ?_
  have := seg_last (prog := prog) (w := w) (B := A.in1) (e := .GeneratorExp elt [⟨.Name x px, iter, [], 0⟩] scope pos) (k := 0) (fs := []) (cenv := genEnv scope cl C code builtinsNs env) (I' := I) (l' := l) (C := C) (I := I) (a := a) (us := vs.toArray) (bs := (List.range vs.length).map bv) (href := href) bv (fun _ => True) 0 0
    (turn_one elt iter x px scope pos (.ref I) _) rfl (show A.in1.handled = none from hA) rfl rfl rfl hx (by simp [genEnv, hkind]) hco rfl (Ne.symm hCI) (.inl rfl) hr hl (fun _ _ _ _ => trivial) (fun i hi => by
      have hi' : i < vs.length := by simpa using hi
      rw [Nat.zero_add, List.getElem?_map, List.getElem?_range hi']; rfl) (by simp)
    (fun i v t m₂ hv hn hm hk Q' E' q' => by
      refine hel i v t m₂ _ ?_ ?_ (by simpa using hv) hn hm hk Q' E' q'
      · exact hA
      · show A.in1.units + 0 + 3 ≤ _
        omega)
    (fun s₀ s m h1 h2 h3 h4 => seg_end (.ok .next) ⟨rfl, rfl, h3⟩)
    vs.length 0 s'' s'' _ (by simp) (Nat.zero_le _) hit hn (Snc.refl _ _ _ _) (hkp.trans hal) trivial
  exact this
end
end Mine

set_option maxRecDepth 100000
set_option autoImplicit false
set_option linter.unusedVariables false
namespace Mine
open PySem PySem.W PySem.Calls PyProof.Rows PySem.Spec
section
variable {prog : Program} {w : World}
abbrev gen2 (elt iter : Expr) (x y : Str) (px py pz : Pos) (scope : Scope) (pos : Pos) : Expr := .GeneratorExp elt [⟨.Name x px, iter, [], 0⟩, ⟨.Name y py, .Name x pz, [], 0⟩] scope pos
theorem seg_outer {B : Around} {elt iter : Expr} {x y : Str} {px py pz pos : Pos} {scope : Scope} {cenv : Env} {l C I a : Addr} {vs : List Value} {bs : List Bool} {href : Heap} (la : Nat → Addr) (us : Nat → Array Value) (bv : Nat → Nat → Bool) (off : Nat → Nat)
    (hB : B.handled = none) (hsc : cenv.scope.kind = .function)
    (hx : cenv.kindOf x = some .local) (hy : cenv.kindOf y = some .local) (hdx : (x == ("__debug__" : Str)) = false) (hco : cenv.scope.isCoroutine = false) (hC : cenv.locals = C)
    (hIC : I < C) (hCa : C < a) (hlt : ∀ b o, href.get? b = some o → b < I) (hl : href.IsList l vs.toArray)
    (hla : ∀ i, i < vs.length → vs[i]? = some (.ref (la i)) ∧ href.IsList (la i) (us i))
    (hoff : ∀ i, i < vs.length → off (i + 1) = off i + (us i).size) (hend : off vs.length = bs.length) (hle : ∀ i, i ≤ vs.length → off i ≤ bs.length)
    (hbs : ∀ i, i < vs.length → ∀ j, j < (us i).size → bs[off i + j]? = some (bv i j))
    (hel : ∀ i j v (t : Shared) m₂ (A' : Around), i < vs.length → A'.handled = none → A'.units ≤ B.units + 30 → (us i)[j]? = some v → t.heap.Ns C m₂ → m₂ y = some v → Kp href t.heap → ∀ (Q' E' : Value → Shared → Prop), (∀ t', Keeps t t' → Q' (.bool (bv i j)) t') → wpAny (model prog w) A' (eval elt cenv) Q' E' t)
    (hfold : ∀ u, foldedSetIterable (.Name x pz) cenv u = pure u) :
    ∀ (r i : Nat) (s₀ s : Shared) (m : Str → Option Value), vs.length - i = r → i ≤ vs.length → s.heap.IsListIter I l i → s.heap.Ns C m → Snc C I a s₀ s → Kp href s.heap → (∃ o, s.heap.get? a = some o) →
      Seg (model prog w) B (fun n s₀ r s₁ => r = .ok .next ∧ RP C I a n s₀ s₁) (YP bs C I a) (bs.length - off i) s₀ (.compLoop (gen2 elt iter x y px py pz scope pos) 0 (.ref I) .none cenv) ((model prog w).den (.compLoop (gen2 elt iter x y px py pz scope pos) 0 (.ref I) .none cenv)) [] s := by
  have hp : (cenv.scope.kind == .class || (cenv.scope.kind == .module && cenv.locals != cenv.globals)) = false := by rw [hsc]; rfl
  have hlI : l ≠ I := fun z => by
    obtain ⟨o, ho, _⟩ := hl
    exact Nat.ne_of_lt (hlt _ _ ho) z
  have Wk := fun (A' : Around) (hh : A'.handled = none) => Walks.list (prog := prog) (w := w) hh I l hlI vs.toArray
  have hsz : vs.toArray.size = vs.length := by simp
  have hh' : (B.over (.compLoop (gen2 elt iter x y px py pz scope pos) 0 (.ref I) .none cenv) []).handled = none := hB
  intro r
  induction r with
  | zero =>
    intro i s₀ s m hk hi hit hn hsince hkp hga
    have hin : i = vs.length := by omega
    subst hin
    show Seg _ B _ _ _ s₀ _ ((compTurn (gen2 elt iter x y px py pz scope pos) 0 (.ref I) .none cenv).onRaise (leaving cenv)) [] s
    rw [turn_out, Sem.onRaise_eq_wrap]
    refine seg_bind_wrap (wpAny_standAt ?_)
    refine seg_bind_wrap ((Wk _ hh').done s _ _ ⟨by rw [hsz]; exact hit, hl.at fun o e => hkp _ o e⟩ fun h' tk hk' => ?_)
    exact seg_end (.ok .next) ⟨rfl, by rw [hend]; exact Nat.sub_self _, hsince.step fun b o h1 h2 h3 e => hk' b o (by simpa using h3) e⟩
  | succ r ih =>
    intro i s₀ s m hk hi hit hn hsince hkp hga
    have hlt' : i < vs.length := by omega
    show Seg _ B _ _ _ s₀ _ ((compTurn (gen2 elt iter x y px py pz scope pos) 0 (.ref I) .none cenv).onRaise (leaving cenv)) [] s
    rw [turn_out, Sem.onRaise_eq_wrap]
    refine seg_bind_wrap (wpAny_standAt ?_)
    refine seg_bind_wrap ((Wk _ hh').item i s _ _ (by rw [hsz]; exact hlt') ⟨hit, hl.at fun o e => hkp _ o e⟩ fun v h₁ tk₁ hPv hst₁ hk₁ => ?_)
    have b₁ : ∀ b o, b ≠ I → s.heap.get? b = some o → h₁.get? b = some o := fun b o hb e => hk₁ b o (by simpa using hb) e
    obtain ⟨hvi, hrow⟩ := hla i hlt'
    have ev : v = .ref (la i) := by
      have : vs[i]? = some v := by simpa using hPv
      rw [hvi] at this; exact (Option.some.inj this).symm
    subst ev
    refine seg_bind_wrap (wpAny_of_eq (rfl : letOwnedTupleGo (.Name x px) (.ref I) (.ref (la i)) = pure ()) ?_)
    have hCI : C ≠ I := Nat.ne_of_gt hIC
    have hn₁ : h₁.Ns cenv.locals m := by rw [hC]; exact hn.at' fun o e => b₁ _ o hCI e
    refine seg_bind_wrap (wpAny_assign_Name (wpAny_storeName_local hx hn₁ (fun h₂ hn₂ hs₂ => ?_) hp))
    have b₂ : ∀ b o, b ≠ C → b ≠ I → s.heap.get? b = some o → h₂.get? b = some o := fun b o h1 h2 e => by rw [hC] at hs₂; exact hs₂.extBut b o h1 (b₁ b o h2 e)
    have old : ∀ b o, href.get? b = some o → b ≠ C ∧ b ≠ I ∧ b ≤ a := fun b o e => by
      have h1 := hlt b o e
      have h2 : b < C := Nat.lt_trans h1 hIC
      exact ⟨Nat.ne_of_lt h2, Nat.ne_of_lt h1, Nat.le_of_lt (Nat.lt_trans h2 hCa)⟩
    have kp₂ : Kp href h₂ := fun b o e => b₂ b o (old b o e).1 (old b o e).2.1 (hkp b o e)
    have it₂ : h₂.IsListIter I l (i + 1) := hst₁.1.at fun o e => by rw [hC] at hs₂; exact hs₂.extBut I o (Ne.symm hCI) e
    have ga₂ : ∃ o, h₂.get? a = some o := by
      obtain ⟨o, e⟩ := hga
      exact ⟨o, b₂ a o (Nat.ne_of_gt hCa) (Nat.ne_of_gt (Nat.lt_trans hIC hCa)) e⟩
    refine seg_bind_wrap (wpAny_Name (wpAny_loadName_local (v := .ref (la i)) hsc hx hn₂ (by simp) ?_) hdx)
    refine seg_bind_wrap (wpAny_standAt ?_)
    refine seg_bind_wrap (wpAny_of_eq (hfold _) ?_)
    have hrow₂ : h₂.IsList (la i) (us i) := hrow.at fun o e => kp₂ _ o e
    refine seg_bind_wrap (wpAny_holding (wpAny_pyIter_list hrow₂ ?_))
    have ka := Kp.push h₂ { cls := .type "list_iterator", data := .fields #[.ref (la i), .int 0 0] }
    have hnew : (h₂.push { cls := .type "list_iterator", data := .fields #[.ref (la i), .int 0 0] }).IsListIter h₂.objs.size (la i) 0 := ⟨_, Heap.get?_push_size _ rfl, rfl, rfl⟩
    have hbig : ∀ b o, h₂.get? b = some o → b ≠ h₂.objs.size := fun b o e => Nat.ne_of_lt (Heap.lt_size e)
    have haI' : a < h₂.objs.size := by obtain ⟨o, e⟩ := ga₂; exact Heap.lt_size e
    have hn₃ := hn₂.push ({ cls := .type "list_iterator", data := .fields #[.ref (la i), .int 0 0] } : Obj)
    rw [hC] at hn₃
    have hcI' : h₂.objs.size ≠ C := Nat.ne_of_gt (Nat.lt_trans hCa haI')
    have hII' : I ≠ h₂.objs.size := Nat.ne_of_lt (Nat.lt_trans (Nat.lt_trans hIC hCa) haI')
    have snc₃ : Snc C I a s₀ { s with heap := h₂.push { cls := .type "list_iterator", data := .fields #[.ref (la i), .int 0 0] }, toks := tk₁ + 1 } := hsince.step fun b o h1 h2 h3 e => ka b o (b₂ b o h2 h3 e)
    have hoffi := hoff i hlt'
    have hle1 := hle (i + 1) (by omega)
    generalize (h₂.objs.size : Nat) = I' at *
    refine seg_call fun p => ?_
    refine seg_start (k := 1) (g := ⟨.Name y py, .Name x pz, [], 0⟩) (by exact hB) rfl rfl rfl rfl hnew ?_
    have eN : bs.length - off i = (us i).size + (bs.length - off (i + 1)) := by omega
    rw [eN]
    refine seg_last (prog := prog) (w := w) (us := us i) (href := href) (bv i) (fun h => h.IsListIter I l (i + 1) ∧ ∃ o, h.get? a = some o) (off i) (bs.length - off (i + 1)) (turn_in elt iter (.Name x pz) x y px py scope pos (.ref I') cenv) rfl (by exact hB) rfl rfl rfl hy hp hco hC hcI' (.inr haI')
      (fun b o e => ⟨(old b o e).2.2, (old b o e).1, (old b o e).2.1, hbig b o (kp₂ b o e)⟩) hrow
      (fun h h' hx b => ⟨hx.1.at fun o e => b I o (Ne.symm hCI) hII' e, let ⟨o, e⟩ := hx.2; ⟨o, b a o (Nat.ne_of_gt hCa) (Nat.ne_of_lt haI') e⟩⟩)
      (hbs i hlt') (by omega)
      (fun j v t m₂ hv hn hm hk Q' E' q' => hel i j v t m₂ _ hlt' (by exact hB) ?_ hv hn hm hk Q' E' q')
      (fun s₀' s' m' h1 h2 h3 h4 => seg_leaf (.ok .next) (seg_again rfl (ih (i + 1) s₀' s' m' (by omega) hlt' h4.1 h2 h3 h1 h4.2)))
      (us i).size 0 s₀ _ _ (by omega) (Nat.zero_le _) hnew hn₃ snc₃ (kp₂.trans ka) ⟨it₂.at fun o e => ka _ o e, let ⟨o, e⟩ := ga₂; ⟨o, ka a o e⟩⟩
    show B.units + 3 + 0 ≤ B.units + 30
    omega
end
end Mine

set_option maxRecDepth 100000
set_option autoImplicit false
set_option linter.unusedVariables false
namespace Mine
open PySem PySem.W PySem.Calls PyProof.Rows PySem.Spec
section
variable {prog : Program} {w : World}
theorem ga_two {A : Around} {P c : Addr} {env : Env} {elt iter : Expr} {x y : Str} {px py pz pos : Pos} {scope : Scope} {cl : List (Str × Addr)} {l : Addr} {vs : List Value} {s₁ s : Shared} {I C a : Addr} {g : Nat} {code : Value} {href : Heap} {n k : Nat} (la : Nat → Addr) (us : Nat → Array Value) (bv : Nat → Nat → Bool)
    (Md : Made P c env scope cl (gen2 elt iter x y px py pz scope pos) l vs s₁ s I C a g code) (hA : A.handled = none)
    (hx : scope.names.lookup x = some .local) (hy : scope.names.lookup y = some .local) (hkind : scope.kind = .function) (hco : scope.isCoroutine = false) (hdx : (x == ("__debug__" : Str)) = false)
    (hkp : Kp href s.heap) (hlt : ∀ b o, href.get? b = some o → b < I) (hl : href.IsList l vs.toArray) (hn : vs.length = n)
    (hla : ∀ i, i < n → vs[i]? = some (.ref (la i)) ∧ href.IsList (la i) (us i) ∧ (us i).size = k)
    (hel : ∀ i j v (t : Shared) m₂ (A' : Around), i < n → A'.handled = none → A'.units ≤ A.in1.units + 30 → (us i)[j]? = some v → t.heap.Ns C m₂ → m₂ y = some v → Kp href t.heap → ∀ (Q' E' : Value → Shared → Prop), (∀ t', Keeps t t' → Q' (.bool (bv i j)) t') → wpAny (model prog w) A' (eval elt (genEnv scope cl C code builtinsNs env)) Q' E' t)
    (hfold : ∀ cenv u, foldedSetIterable (.Name x pz) cenv u = pure u) :
    GA prog w A a g C I ((List.range (n * k)).map fun t => bv (t / k) (t % k)) 0 s := by
  have hgs : s.gens[g]? = some (.fresh (.compStart (gen2 elt iter x y px py pz scope pos) 0 (.ref I) .none (genEnv scope cl C code builtinsNs env))) := by rw [Md.gs, Md.gg]; exact Array.getElem?_push_size ..
  refine ⟨Md.gen, Md.lim, _, hgs, fun s'' hal => ⟨rfl, ?_⟩⟩
  have hns : s''.heap.Ns C _ := Md.ns.keeps hal
  have hit := Md.it.at fun o e => hal I o e
  have hga : ∃ o, s''.heap.get? a = some o := by
    obtain ⟨o, _, _, e, _⟩ := Md.gen
    exact ⟨o, hal a o e⟩
  have hbl : ((List.range (n * k)).map fun t => bv (t / k) (t % k)).length = n * k := by simp
  refine seg_start (k := 0) (g := ⟨.Name x px, iter, [], 0⟩) (show A.in1.handled = none from hA) rfl rfl rfl rfl hit ?_
  have key := seg_outer (prog := prog) (w := w) (B := A.in1) (elt := elt) (iter := iter) (x := x) (y := y) (px := px) (py := py) (pz := pz) (pos := pos) (scope := scope) (cenv := genEnv scope cl C code builtinsNs env) (l := l) (C := C) (I := I) (a := a) (vs := vs) (bs := (List.range (n * k)).map fun t => bv (t / k) (t % k)) (href := href) la us bv (fun i => i * k)
    (show A.in1.handled = none from hA) hkind hx hy hdx hco rfl Md.ic Md.ca hlt hl (fun i hi => ⟨(hla i (hn ▸ hi)).1, (hla i (hn ▸ hi)).2.1⟩)
    (fun i hi => by rw [(hla i (hn ▸ hi)).2.2, Nat.succ_mul]) (by rw [hbl, hn]) (fun i hi => by rw [hbl]; exact Nat.mul_le_mul_right _ (hn ▸ hi))
    (fun i hi j hj => by
      rw [(hla i (hn ▸ hi)).2.2] at hj
      have hi' : i < n := hn ▸ hi
      have hlt : i * k + j < n * k := by
        have : i * k + k ≤ n * k := by rw [← Nat.succ_mul]; exact Nat.mul_le_mul_right _ hi'
        omega
      rw [List.getElem?_map, List.getElem?_range hlt]
      have h1 : (i * k + j) / k = i := by
        rw [Nat.mul_comm, Nat.mul_add_div (by omega), Nat.div_eq_of_lt hj, Nat.add_zero]
      have h2 : (i * k + j) % k = j := by
        rw [Nat.mul_comm, Nat.mul_add_mod, Nat.mod_eq_of_lt hj]
      simp only [Option.map_some, h1, h2])
    (fun i j v t m₂ A' hi => hel i j v t m₂ A' (hn ▸ hi)) (hfold _) vs.length 0 s'' s'' _ (by omega) (Nat.zero_le _) hit hns (Snc.refl _ _ _ _) (hkp.trans hal) hga
  have e0 : ((List.range (n * k)).map fun t => bv (t / k) (t % k)).length - 0 * k = ((List.range (n * k)).map fun t => bv (t / k) (t % k)).length - 0 := by omega
  rw [← e0]
  exact key
end
end Mine

set_option maxRecDepth 100000
set_option autoImplicit false
set_option linter.unusedVariables false
namespace Mine
open PySem PySem.W PySem.Calls PyProof.Rows PySem.Spec
/-! ### a heap without its object at P -/
def hole (h : Heap) (P : Addr) : Heap := h.update P fun o => { o with data := .freed }
theorem hole_ne {h : Heap} {P b : Addr} (hb : b ≠ P) : (hole h P).get? b = h.get? b := Heap.get?_update_other _ _ (Ne.symm hb)
theorem hole_self (h : Heap) (P : Addr) : (hole h P).get? P = none := by
  unfold hole Heap.update Heap.get?
  simp only [Array.getElem?_modify]
  cases h.objs[P]? with
  | none => simp
  | some o => simp
theorem hole_some {h : Heap} {P b : Addr} {o : Obj} (e : (hole h P).get? b = some o) : b ≠ P ∧ h.get? b = some o := by
  by_cases hb : b = P
  · subst hb; rw [hole_self] at e; cases e
  · rw [hole_ne hb] at e; exact ⟨hb, e⟩
theorem hole_ext (h : Heap) (P : Addr) : Heap.ExtBut P h (hole h P) := fun b o hb e => by rw [hole_ne hb]; exact e
/-- the code table of a def, and what its generators need -/
structure Tab (h : Heap) (c P : Addr) : Prop where
  code : h.IsCode c P #[]
  tab : h.TableAt c P #[]
  lim : h.NoLimit
  bm : ∃ mg bm ob, BMod h mainGlobals mg bm ob
theorem Tab.keeps {h h' : Heap} {c P : Addr} (x : Tab h c P) (k : Kp h h') : Tab h' c P := ⟨x.code.keeps k, x.tab.keeps k, x.lim.keeps k, let ⟨a, b, d, e⟩ := x.bm; ⟨a, b, d, e.keeps k⟩⟩
theorem Tab.pNe {h : Heap} {c P : Addr} (x : Tab h c P) : cStatics ≠ P ∧ mainGlobals ≠ P := by
  obtain ⟨mg, bm, ob, B⟩ := x.bm
  refine ⟨fun e => ?_, (B.apart x.tab).1⟩
  obtain ⟨_, hns, _⟩ := x.lim
  obtain ⟨o, es, ep, ho, hd, _⟩ := hns
  rw [e, x.tab.2] at ho; cases ho; cases hd
theorem Tab.noSeq {h : Heap} {c P : Addr} (x : Tab h c P) : ∃ o, h.get? P = some o ∧ ∀ vs n, o.data ≠ .seq vs n := ⟨_, x.tab.2, fun _ _ q => by cases q⟩
/-- the state after any(..) -/
theorem load_nm' {prog : Program} {w : World} {A : Around} {env : Env} {m : Str → Option Value} {x : Str} {xp : Pos} {v : Value} {s : Shared} {Q E : Value → Shared → Prop} (hf : env.scope.kind = .function) (hn : s.heap.Ns env.locals m) (n : Nm env m s.heap x v) (hd : (x == ("__debug__" : Str)) = false) (q : Q v s) :
    wpAny (model prog w) A (eval (.Name x xp) env) Q E s := by
  rcases n with ⟨a, b⟩ | ⟨a, c, b, g⟩
  · exact wpAny_Name (wpAny_loadName_local hf a hn b q) hd
  · exact wpAny_Name (wpAny_loadName_cell hf a b g q) hd
structure AnyS (c P : Addr) (s s' : Shared) : Prop where
  keep : ∀ b o, b ≠ P → s.heap.get? b = some o → s'.heap.get? b = some o
  tab : ∃ more, s'.heap.TableAt c P (#[] ++ more)
  os : s'.os = s.os
  gs : AllBare s.gens → AllBare s'.gens
section
variable {prog : Program} {w : World}
theorem any_end {P c : Addr} {env : Env} {scope : Scope} {cl : List (Str × Addr)} {e : Expr} {l : Addr} {vs : List Value} {s s₁ s' : Shared} {I C a : Addr} {g : Nat} {code : Value} (Md : Made P c env scope cl e l vs s s₁ I C a g code) (f : Fin1 C I a g s₁ s') (T : Tab s.heap c P) : AnyS c P s s' := by
  have old : ∀ b o, s.heap.get? b = some o → b ≤ a ∧ b ≠ C ∧ b ≠ I := fun b o e => by
    have h1 : b < I := by rw [Md.ge]; exact Heap.lt_size e
    have h2 := Nat.lt_trans h1 Md.ic
    exact ⟨Nat.le_of_lt (Nat.lt_trans h2 Md.ca), Nat.ne_of_lt h2, Nat.ne_of_lt h1⟩
  refine ⟨fun b o hb e => f.heap b o (old b o e).1 (old b o e).2.1 (old b o e).2.2 (Md.keep b o hb e), ?_, f.os.trans Md.os, fun ha => ?_⟩
  · obtain ⟨more, ⟨o, ws, ho, r⟩, ht⟩ := Md.tab
    refine ⟨more, ⟨o, ws, ?_, r⟩, ?_⟩
    · obtain ⟨⟨o', _, e, _⟩, _⟩ := T.tab
      exact f.heap c o (old c o' e).1 (old c o' e).2.1 (old c o' e).2.2 ho
    · have e := T.tab.2
      exact f.heap P _ (old P _ e).1 (old P _ e).2.1 (old P _ e).2.2 ht
  · refine f.gens.bare ?_
    rw [Md.gs]
    exact ha.push rfl
variable {W : Wd} {A : Around} {env : Env} {m : Str → Option Value}
/-- any(.. for x in z for y in x) -/
theorem any_two {gp cpos : Pos} {elt : Expr} {x y z : Str} {px py pz zp pos : Pos} {scope : Scope} {cl : List (Str × Addr)} {s : Shared} {Q E : Value → Shared → Prop} {c P l : Addr} {vs : List Value} {n k : Nat} {O : Addr → Prop} (la : Nat → Addr) (us : Nat → Array Value) (bv : Nat → Nat → Bool)
    (R : Rd W env [] O m s.heap) (hany : W.Gl "any" (.builtin "any")) (hh : A.handled = none) (hroom : A.depth < recursionLimit)
    (T : Tab s.heap c P) (hcode : env.code = .ref c) (nz : Nm env m s.heap z (.ref l)) (hl : s.heap.IsList l vs.toArray) (hn : vs.length = n)
    (hla : ∀ i, i < n → vs[i]? = some (.ref (la i)) ∧ s.heap.IsList (la i) (us i) ∧ (us i).size = k)
    (hel : ∀ (cenv : Env) i j v (t : Shared) m₂ (A' : Around), cenv.scope = scope → i < n → A'.handled = none → A'.units ≤ A.units + 60 → (us i)[j]? = some v → t.heap.Ns cenv.locals m₂ → m₂ y = some v → Kp (hole s.heap P) t.heap → ∀ (Q' E' : Value → Shared → Prop), (∀ t', Keeps t t' → Q' (.bool (bv i j)) t') → wpAny (model W.prog W.w) A' (eval elt cenv) Q' E' t)
    (q : ∀ s', AnyS c P s s' → Q (.bool (((List.range (n * k)).map fun t => bv (t / k) (t % k)).any id)) s')
    (hco : scope.isCoroutine = false) (hclos : closureFor scope env = pure cl) (hcell : ∀ y ∈ scope.names, y.2 ≠ .cell) (h0 : scope.names.lookup (".0" : Str) = some NameKind.local) (hkind : scope.kind = .function)
    (hx : scope.names.lookup x = some .local) (hy : scope.names.lookup y = some .local) (hdx : (x == ("__debug__" : Str)) = false) (hdz : (z == ("__debug__" : Str)) = false)
    (hfold : ∀ cenv u, foldedSetIterable (.Name x pz) cenv u = pure u) (hfold2 : ∀ u, genFold (.Name z zp) env u = pure u)
    (hk : env.kindOf "any" = some .globalImplicit) (he : starEach [gen2 elt (.Name z zp) x y px py pz scope pos] env = [(false, eval (gen2 elt (.Name z zp) x y px py pz scope pos) env)]) :
    wpAny (model W.prog W.w) A (eval (.Call (.Name "any" gp) [gen2 elt (.Name z zp) x y px py pz scope pos] [] cpos) env) Q E s := by
  refine wpAny_Call_NameR (gname R hany hk ?_ (by decide))
  rw [he]
  refine callWith_builtin rfl (evalArgs_plain (spliced_cons ?_))
  have pne := T.pNe
  refine gen_make (c := c) (P := P) hco hclos hcell h0 hkind hroom hcode pne.1 (by rw [R.gl]; exact pne.2) (load_nm' R.fn R.ns nz hdz ?_) hfold2
  obtain ⟨mg, bm, ob, B⟩ := id T.bm
  refine ⟨l, vs, mg, bm, ob, rfl, hl, T.code, T.tab, T.lim, by rw [R.gl]; exact B, (B.apart T.tab).2, fun s₂ I C a g code Md => spliced_nil ?_⟩
  have hlP : ∀ {b : Addr} {its : Array Value}, s.heap.IsList b its → (hole s.heap P).IsList b its := by
    intro b its h
    refine h.at fun o e => ?_
    obtain ⟨o', e', _, n', d'⟩ := h
    rw [hole_ne]
    · exact e
    · intro z
      rw [z, T.tab.2] at e'; cases e'; cases d'
  have kp : Kp (hole s.heap P) s₂.heap := fun b o e => Md.keep b o (hole_some e).1 (hole_some e).2
  have hlt : ∀ b o, (hole s.heap P).get? b = some o → b < I := fun b o e => by rw [Md.ge]; exact Heap.lt_size (hole_some e).2
  have ga := ga_two (prog := W.prog) (w := W.w) (A := A.in1) (href := hole s.heap P) la us bv Md hh hx hy hkind hco hdx kp hlt (hlP hl) hn (fun i hi => ⟨(hla i hi).1, hlP (hla i hi).2.1, (hla i hi).2.2⟩)
    (fun i j v t m₂ A' hi hA hU hv hns hm hk Q' E' q' => hel _ i j v t m₂ A' rfl hi hA (Nat.le_trans hU (by show A.units + 1 + 1 + 30 ≤ A.units + 60; omega)) hv hns hm hk Q' E' q') hfold
  have hcI : cStatics < I := by
    rw [Md.ge]
    obtain ⟨_, hn, _⟩ := T.lim
    exact hn.lt
  exact any_gen hh (by show A.depth < recursionLimit; exact hroom) (Nat.ne_of_gt Md.ca) (Nat.ne_of_gt (Nat.lt_trans Md.ic Md.ca)) (Nat.le_of_lt (Nat.lt_trans hcI (Nat.lt_trans Md.ic Md.ca))) (Nat.ne_of_lt (Nat.lt_trans hcI Md.ic)) (Nat.ne_of_lt hcI) ga fun s' f => q s' (any_end Md f T)
end
end Mine

set_option maxRecDepth 100000
set_option autoImplicit false
set_option linter.unusedVariables false
namespace Mine
open PySem PySem.W PySem.Calls PyProof.Rows PySem.Spec
section
variable {W : Wd} {A : Around} {env : Env} {ρ : Store} {k : Addr → Option Obj} {O₀ O : Addr → Prop} {m : Str → Option Value} {ad : Str → Addr} {h h' : Heap}
theorem sem_assoc {α β γ : Type} (x : Sem α) (f : α → Sem β) (g : β → Sem γ) : (x >>= f) >>= g = x >>= fun a => f a >>= g := by
  rw [Sem.bind_eq_wrap', Sem.bind_eq_wrap', Sem.bind_eq_wrap', Sem.wrap_wrap]
  refine Sem.wrap_congr _ _ _ (fun a => ?_) (fun e => rfl)
  rw [Sem.bind_eq_wrap']
theorem execs_append (pre rest : List Stmt) (env : Env) : execs (pre ++ rest) env = (execs pre env >>= fun f => match f with | .next => execs rest env | f => pure f) := by
  induction pre with
  | nil => rfl
  | cons st pre ih =>
    rw [List.cons_append, execs_cons, execs_cons, sem_assoc]
    congr 1
    funext f
    cases f with
    | next => exact ih
    | _ => rfl
/-- first some statements by their rule, then the rest by hand -/
theorem ex_then {pre rest : List Stmt} {P : Out → Prop} {s : Shared} {Q : Flow → Shared → Prop} {E : Value → Shared → Prop} (x : EX W A env ρ pre P) (I : Inv W k O₀ env ρ s)
    (h : ∀ o fl s', P o → Mo s s' → Fl W k O₀ env o fl s' → wpAny (model W.prog W.w) A (match fl with | .next => execs rest env | f => pure f) Q E s') : wpAny (model W.prog W.w) A (execs (pre ++ rest) env) Q E s := by
  rw [execs_append]
  exact wpAny_bind (x k O₀ s I _ _ fun o fl s' p mo g => h o fl s' p mo g)
/-- less is known, less is kept -/
theorem InvC.drop {W' : Wd} {k' : Addr → Option Obj} (I : InvC W k O₀ env ρ O m ad h) (hb : Kp W'.base W.base) (hk : ∀ b o, k' b = some o → k b = some o) (hb' : ∀ b o, W'.base.get? b = some o → k' b = some o) : InvC W' k' O₀ env ρ O m ad h := by
  have nk : ∀ b, k b = none → k' b = none := fun b e => by
    cases q : k' b with
    | none => rfl
    | some o => rw [hk b o q] at e; cases e
  refine { rd := ⟨I.rd.fn, I.rd.gl, I.rd.bi, I.rd.ns, I.rd.at_, I.rd.al, hb.trans I.rd.gr⟩, sub := I.sub, kb := hb', kk := fun b o e => I.kk b o (hk b o e), kl := nk _ I.kl, kc := fun x c e => ⟨nk _ (I.kc x c e).1, (I.kc x c e).2⟩, ap := I.ap, ow := fun x pl ds e => ?_, okk := fun a q => (I.okk a q).imp id (nk a), inj := I.inj }
  obtain ⟨vs, a, b, c, d, l, r⟩ := I.ow x pl ds e
  exact ⟨vs, a, b, c, nk _ d, l, r⟩
theorem InvC.weak' {ρ' : Store} (q : SubS ρ' ρ) (I : InvC W k O₀ env ρ O m ad h) : InvC W k O₀ env ρ' O m ad h :=
  { rd := ⟨I.rd.fn, I.rd.gl, I.rd.bi, I.rd.ns, fun x d e => I.rd.at_ x d (q.get e), I.rd.al, I.rd.gr⟩, sub := I.sub, kb := I.kb, kk := I.kk, kl := I.kl, kc := I.kc, ap := I.ap, ow := fun x pl ds e => I.ow x pl ds (q.get e), okk := I.okk, inj := fun x y pl pe ds es a b => I.inj x y pl pe ds es (q.get a) (q.get b) }
theorem EV.use' {e : Expr} {P : PyData → Prop} {s : Shared} {Q E : Value → Shared → Prop} (x : EV W A env ρ e P) (R : Rd W env ρ O m s.heap) (q : ∀ v d s', Mv s s' → Rp O s'.heap v d → P d → Q v s') : wpAny (model W.prog W.w) A (eval e env) Q E s := x s O m R Q E q
end
end Mine

set_option maxRecDepth 100000
set_option autoImplicit false
set_option linter.unusedVariables false
namespace Mine
open PySem PySem.W PySem.Calls PyProof.Rows PySem.Spec
theorem rankof_c {W : Wd} (F : Fs W) {f : Addr} (D : W.Df (fdef pp 13) f) (R C B : Nat) (M : Nat → Nat → Rat) (hR : R ≤ 100) (hC : C ≤ 100) (hM : SzM R C B M) (hB : ∀ c, c < C → 4 * bd B c + 1 ≤ 1890) :
    FN W 6 f [matF R C M, .int (C : Int)] fun d => d = .int ((stM R M C).2.length : Int) := by
  obtain ⟨f12, D12⟩ := F.red
  have rc := red_c F D12 R C B M hR hC hM hB
  obtain ⟨hg, pm, code, doc, hf⟩ := D
  obtain ⟨g12, _, _, _, k12⟩ := D12
  refine fn_of hf (names := ["m", "cols"]) (defOk rfl rfl rfl (fun vs h => match vs, h with | [_, _], _ => rfl) (by decide) rfl) rfl fun A L rm => ?_
  have hl : (pivD (stM R M C).2).length = (stM R M C).2.length := by simp [pivD]
  have hl2 := (st_len (R := R) (M := M) C).1
  refine ex_cons (ex_ret (ev_len F.bi.len (ev_sub (ev_call rm g12 k12 (evs_cons (ev_name rfl (evs_cons (ev_name rfl (evs_nil (rc.mono fun d e => ?_))))))))))
  subst e
  refine ev_int ⟨by decide, by decide, _, rfl, by rw [hl]; omega, ?_⟩
  rw [hl]
/-! ### the rank by minors, as the text computes it -/
def rowI (C : Nat) (r : Nat → Int) : PyData := .list ((List.range C).map fun j => .int (r j))
def matI (R C : Nat) (a : Nat → Nat → Int) : PyData := .list ((List.range R).map fun i => rowI C (a i))
theorem rowI_get {C j : Nat} {r : Nat → Int} (h : j < C) : ((List.range C).map fun j => PyData.int (r j))[j]? = some (.int (r j)) := by rw [List.getElem?_map, List.getElem?_range h]; rfl
theorem matI_get {R C i : Nat} {a : Nat → Nat → Int} (h : i < R) : ((List.range R).map fun i => rowI C (a i))[i]? = some (rowI C (a i)) := by rw [List.getElem?_map, List.getElem?_range h]; rfl
section
variable {W : Wd} {A : Around} {env : Env} {ρ : Store} {P : PyData → Prop}
theorem ev_cellI {x : Str} {xp p1 p2 : Pos} {e1 e2 : Expr} {R C : Nat} {a : Nat → Nat → Int} (hx : ρ.lookup x = some (.sh (matI R C a))) (hR : R ≤ 100) (hC : C ≤ 100)
    (h1 : EV W A env ρ e1 fun d => ∃ i : Nat, d = .int (i : Int) ∧ i < R ∧ EV W A env ρ e2 fun d' => ∃ j : Nat, d' = .int (j : Int) ∧ j < C ∧ P (.int (a i j))) (hd : (x == ("__debug__" : Str)) = false := by decide)
    (hs1 : ∀ (a : Addr) (k : Int) (u : Tok), subscripted e1 false (.ref a) (.int k u) = operate [.ref a, .int k u] (getItem (.ref a) (.int k u)) := by intros; with_unfolding_all rfl)
    (hs2 : ∀ (a : Addr) (k : Int) (u : Tok), subscripted e2 false (.ref a) (.int k u) = operate [.ref a, .int k u] (getItem (.ref a) (.int k u)) := by intros; with_unfolding_all rfl) :
    EV W A env ρ (.Subscript (.Subscript (.Name x xp) e1 p1) e2 p2) P := by
  refine ev_sub (ev_sub (ev_name hx (h1.mono fun d h => ?_) hd) hs1) hs2
  obtain ⟨i, rfl, hi, h2⟩ := h
  refine ⟨by omega, by omega, _, matI_get (R := R) (C := C) (a := a) (i := i) hi, h2.mono fun d h => ?_⟩
  obtain ⟨j, rfl, hj, h3⟩ := h
  exact ⟨by omega, by omega, _, rowI_get hj, h3⟩
end
def det3I (a : Nat → Nat → Int) : Int := a 0 0 * (a 1 1 * a 2 2 - a 1 2 * a 2 1) - a 0 1 * (a 1 0 * a 2 2 - a 1 2 * a 2 0) + a 0 2 * (a 1 0 * a 2 1 - a 1 1 * a 2 0)
def D3 (R C : Nat) (a : Nat → Nat → Int) : Prop := R = 3 ∧ C = 3 ∧ det3I a ≠ 0
def ZI2 (R C : Nat) (a : Nat → Nat → Int) : Prop := ∀ i k j q, i < R → k < i → j < C → q < j → a i j * a k q = a i q * a k j
def ZI1 (R C : Nat) (a : Nat → Nat → Int) : Prop := ∀ i j, i < R → j < C → a i j = 0
def Bd6 (R C : Nat) (a : Nat → Nat → Int) : Prop := ∀ i j, i < R → j < C → (a i j).natAbs < 2 ^ 6
def rkOut (R C : Nat) (a : Nat → Nat → Int) : Out → Prop
  | .next ρ' => ¬ D3 R C a ∧ ZI2 R C a ∧ SubS [("a", .sh (matI R C a))] ρ'
  | .ret d => (d = .int 3 ∧ D3 R C a) ∨ (d = .int 2 ∧ ¬ D3 R C a ∧ ¬ ZI2 R C a)
  | _ => False
theorem nat_pat {n : Nat} {d : PyData} (h : d = .int (n : Int)) : d = .int (n : Int) := h
open PySem.Builtin.Int in
theorem lr_pre {W : Wd} {A : Around} {L f : Addr} {pm code doc : Value} (G : Bi W) (R C : Nat) (a : Nat → Nat → Int) (hR : R ≤ 3) (hC : C ≤ 3) (ha : Bd6 R C a) (hh : A.handled = none) :
    EX W A (callEnvC (fdOf (fdef pp 16) pm code doc) L f) [("a", .sh (matI R C a)), ("r", .sh (.int (R : Int))), ("c", .sh (.int (C : Int)))] ((fdef pp 16).body.take 2) (rkOut R C a) := by
  have mok : ∀ i j i' j', i < R → j < C → i' < R → j' < C → IntMulOk (a i j) (a i' j') := fun i j i' j' h1 h2 h3 h4 => IntMulOk.of_le (bits_of (ha i j h1 h2)) (bits_of (ha i' j' h3 h4)) (by decide)
  refine ex_cut (fun ρ' => ¬ D3 R C a ∧ SubS [("a", .sh (matI R C a)), ("r", .sh (.int (R : Int))), ("c", .sh (.int (C : Int)))] ρ') (ex_if (tv_and (tv_cmp (ev_name rfl (ev_int (co_eqI ?_)))))) ?_
  · by_cases hR3 : R = 3
    · have e1 : ((R : Int) == 3) = true := by simp; omega
      rw [e1, if_pos rfl]
      refine tv_cmp (ev_name rfl (ev_int (co_eqI ?_)))
      by_cases hC3 : C = 3
      · have e2 : ((C : Int) == 3) = true := by simp; omega
        rw [e2]
        subst hR3 hC3
        have m2 : ∀ i j i' j' i'' j'', i < 3 → j < 3 → i' < 3 → j' < 3 → i'' < 3 → j'' < 3 → ∀ k l, k < 3 → l < 3 → ∀ k' l', k' < 3 → l' < 3 → IntMulOk (a i j) (a i' j' * a i'' j'' - a k l * a k' l') := fun i j i' j' i'' j'' h1 h2 h3 h4 h5 h6 k l h7 h8 k' l' h9 h10 =>
          IntMulOk.of_le (bits_of (ha i j h1 h2)) (intBits_sub_le (intBits_mul_le (bits_of (ha i' j' h3 h4)) (bits_of (ha i'' j'' h5 h6))) (intBits_mul_le (bits_of (ha k l h7 h8)) (bits_of (ha k' l' h9 h10)))) (by decide)
        have cellE : ∀ {A : Around} {env : Env} {ρ : Store} {P : PyData → Prop} {x : Str} {xp p1 p2 q1 q2 : Pos} {k1 k2 : Nat} {i j : Nat}, ρ.lookup x = some (.sh (matI 3 3 a)) → (x == ("__debug__" : Str)) = false → i < 3 → j < 3 → P (.int (a i j)) →
            EV W A env ρ (.Subscript (.Subscript (.Name x xp) (.Constant (.int (i : Int)) k1 q1) p1) (.Constant (.int (j : Int)) k2 q2) p2) P := by
          intro A env ρ P x xp p1 p2 q1 q2 k1 k2 i j hx hd hi hj p
          exact ev_cellI hx (by decide) (by decide) (ev_int ⟨i, rfl, hi, ev_int ⟨j, rfl, hj, p⟩⟩) hd
        refine ex_cons (ex_assign (.inl rfl) (ev_bin (cellE (i := 0) (j := 0) rfl rfl (by decide) (by decide) (ev_bin (ev_bin (cellE (i := 1) (j := 1) rfl rfl (by decide) (by decide) (cellE (i := 2) (j := 2) rfl rfl (by decide) (by decide) (bo_mul (mok 1 1 2 2 (by decide) (by decide) (by decide) (by decide)) ?_))))))))
        refine ev_bin (cellE (i := 1) (j := 2) rfl rfl (by decide) (by decide) (cellE (i := 2) (j := 1) rfl rfl (by decide) (by decide) (bo_mul (mok 1 2 2 1 (by decide) (by decide) (by decide) (by decide)) (bo_sub (bo_mul (m2 0 0 1 1 2 2 (by decide) (by decide) (by decide) (by decide) (by decide) (by decide) 1 2 (by decide) (by decide) 2 1 (by decide) (by decide)) ?_)))))
        refine ex_cons (ex_assign (.inl rfl) (ev_bin (ev_name rfl (ev_bin (cellE (i := 0) (j := 1) rfl rfl (by decide) (by decide) (ev_bin (ev_bin (cellE (i := 1) (j := 0) rfl rfl (by decide) (by decide) (cellE (i := 2) (j := 2) rfl rfl (by decide) (by decide) (bo_mul (mok 1 0 2 2 (by decide) (by decide) (by decide) (by decide)) ?_))))))))))
        refine ev_bin (cellE (i := 1) (j := 2) rfl rfl (by decide) (by decide) (cellE (i := 2) (j := 0) rfl rfl (by decide) (by decide) (bo_mul (mok 1 2 2 0 (by decide) (by decide) (by decide) (by decide)) (bo_sub (bo_mul (m2 0 1 1 0 2 2 (by decide) (by decide) (by decide) (by decide) (by decide) (by decide) 1 2 (by decide) (by decide) 2 0 (by decide) (by decide)) (bo_sub ?_))))))
        refine ex_cons (ex_assign (.inl rfl) (ev_bin (ev_name rfl (ev_bin (cellE (i := 0) (j := 2) rfl rfl (by decide) (by decide) (ev_bin (ev_bin (cellE (i := 1) (j := 0) rfl rfl (by decide) (by decide) (cellE (i := 2) (j := 1) rfl rfl (by decide) (by decide) (bo_mul (mok 1 0 2 1 (by decide) (by decide) (by decide) (by decide)) ?_))))))))))
        refine ev_bin (cellE (i := 1) (j := 1) rfl rfl (by decide) (by decide) (cellE (i := 2) (j := 0) rfl rfl (by decide) (by decide) (bo_mul (mok 1 1 2 0 (by decide) (by decide) (by decide) (by decide)) (bo_sub (bo_mul (m2 0 2 1 0 2 1 (by decide) (by decide) (by decide) (by decide) (by decide) (by decide) 1 1 (by decide) (by decide) 2 0 (by decide) (by decide)) (bo_add ?_))))))
        refine ex_cons (ex_if (tv_cmp (ev_name rfl (ev_int (co_neI ?_)))))
        have hdet : a 0 0 * (a 1 1 * a 2 2 - a 1 2 * a 2 1) - a 0 1 * (a 1 0 * a 2 2 - a 1 2 * a 2 0) + a 0 2 * (a 1 0 * a 2 1 - a 1 1 * a 2 0) = det3I a := rfl
        rw [hdet]
        by_cases hz : det3I a = 0
        · rw [hz]
          exact ex_nil (ex_nil ⟨fun h => h.2.2 hz, rfl, rfl, rfl, trivial⟩)
        · rw [show (det3I a != 0) = true by simp [hz]]
          exact ex_cons (ex_ret (ev_int (.inl ⟨rfl, rfl, rfl, hz⟩)))
      · have e2 : ((C : Int) == 3) = false := by simp; omega
        rw [e2]
        exact ex_nil ⟨fun h => hC3 h.2.1, rfl, rfl, rfl, trivial⟩
    · have e1 : ((R : Int) == 3) = false := by simp; omega
      rw [e1, if_neg (by decide)]
      exact ex_nil ⟨fun h => hR3 h.1, rfl, rfl, rfl, trivial⟩
  rintro ρ1 ⟨hD, q1, q2, q3, _⟩
  refine ex_weak (ρ' := [("a", .sh (matI R C a)), ("r", .sh (.int (R : Int))), ("c", .sh (.int (C : Int)))]) ⟨q1, q2, q3, trivial⟩ ?_
  refine ex_cons (ex_for (.inl rfl) (itn_range1 hh G.range (ev_name rfl ⟨by omega, by omega, ?_⟩)))
  refine ⟨fun i ρ' => (∀ i' k j q, i' < i → k < i' → j < C → q < j → a i' j * a k q = a i' q * a k j) ∧ SubS [("a", .sh (matI R C a)), ("c", .sh (.int (C : Int)))] ρ', ⟨fun i' k j q h => by omega, rfl, rfl, trivial⟩, ?_, ?_⟩
  · rintro i d ρ2 hd ⟨hz, s1, s2, _⟩
    obtain ⟨rfl, hi1, hi2⟩ := rangeL_get hd
    have hiR : i < R := by omega
    rw [show (0 + (i : Int)) = (i : Int) by omega]
    refine ex_weak (ρ' := [("i", .sh (.int (i : Int))), ("a", .sh (matI R C a)), ("c", .sh (.int (C : Int)))]) ⟨rfl, s1, s2, trivial⟩ ?_
    refine ex_cons (ex_for (.inl rfl) (itn_range1 hh G.range (ev_name rfl ⟨by omega, by omega, ?_⟩)))
    refine ⟨fun k ρ' => (∀ k' j q, k' < k → j < C → q < j → a i j * a k' q = a i q * a k' j) ∧ SubS [("i", .sh (.int (i : Int))), ("a", .sh (matI R C a)), ("c", .sh (.int (C : Int)))] ρ', ⟨fun k' j q h => by omega, rfl, rfl, rfl, trivial⟩, ?_, ?_⟩
    · rintro k d ρ3 hd ⟨hz2, t0, t1, t2, _⟩
      obtain ⟨rfl, hk1, hk2⟩ := rangeL_get hd
      have hki : k < i := by omega
      rw [show (0 + (k : Int)) = (k : Int) by omega]
      refine ex_weak (ρ' := [("k", .sh (.int (k : Int))), ("i", .sh (.int (i : Int))), ("a", .sh (matI R C a)), ("c", .sh (.int (C : Int)))]) ⟨rfl, t0, t1, t2, trivial⟩ ?_
      refine ex_cons (ex_for (.inl rfl) (itn_range1 hh G.range (ev_name rfl ⟨by omega, by omega, ?_⟩)))
      refine ⟨fun j ρ' => (∀ j' q, j' < j → q < j' → a i j' * a k q = a i q * a k j') ∧ SubS [("k", .sh (.int (k : Int))), ("i", .sh (.int (i : Int))), ("a", .sh (matI R C a)), ("c", .sh (.int (C : Int)))] ρ', ⟨fun j' q h => by omega, rfl, rfl, rfl, rfl, trivial⟩, ?_, ?_⟩
      · rintro j d ρ4 hd ⟨hz3, u0, u1, u2, u3, _⟩
        obtain ⟨rfl, hj1, hj2⟩ := rangeL_get hd
        have hjC : j < C := by omega
        rw [show (0 + (j : Int)) = (j : Int) by omega]
        refine ex_weak (ρ' := [("j", .sh (.int (j : Int))), ("k", .sh (.int (k : Int))), ("i", .sh (.int (i : Int))), ("a", .sh (matI R C a)), ("c", .sh (.int (C : Int)))]) ⟨rfl, u0, u1, u2, u3, trivial⟩ ?_
        refine ex_cons (ex_for (.inl rfl) (itn_range1 hh G.range (ev_name rfl ⟨by omega, by omega, ?_⟩)))
        refine ⟨fun q ρ' => (∀ q', q' < q → a i j * a k q' = a i q' * a k j) ∧ SubS [("j", .sh (.int (j : Int))), ("k", .sh (.int (k : Int))), ("i", .sh (.int (i : Int))), ("a", .sh (matI R C a)), ("c", .sh (.int (C : Int)))] ρ', ⟨fun q' h => by omega, rfl, rfl, rfl, rfl, rfl, trivial⟩, ?_, ?_⟩
        · rintro q d ρ5 hd ⟨hz4, v0, v1, v2, v3, v4, _⟩
          obtain ⟨rfl, hq1, hq2⟩ := rangeL_get hd
          have hqj : q < j := by omega
          rw [show (0 + (q : Int)) = (q : Int) by omega]
          refine ex_weak (ρ' := [("q", .sh (.int (q : Int))), ("j", .sh (.int (j : Int))), ("k", .sh (.int (k : Int))), ("i", .sh (.int (i : Int))), ("a", .sh (matI R C a)), ("c", .sh (.int (C : Int)))]) ⟨rfl, v0, v1, v2, v3, v4, trivial⟩ ?_
          refine ex_cons (ex_if (tv_cmp (ev_bin (ev_cellI rfl (by omega) (by omega) (ev_name rfl ⟨i, rfl, hiR, ev_name rfl ⟨j, rfl, hjC, ev_cellI rfl (by omega) (by omega) (ev_name rfl ⟨k, rfl, by omega, ev_name rfl ⟨q, rfl, by omega, bo_mul (mok i j k q hiR hjC (by omega) (by omega)) ?_⟩⟩)⟩⟩)))))
          refine ev_bin (ev_cellI rfl (by omega) (by omega) (ev_name rfl ⟨i, rfl, hiR, ev_name rfl ⟨q, rfl, by omega, ev_cellI rfl (by omega) (by omega) (ev_name rfl ⟨k, rfl, by omega, ev_name rfl ⟨j, rfl, hjC, bo_mul (mok i q k j hiR (by omega) (by omega) hjC) (co_neI ?_)⟩⟩)⟩⟩))
          by_cases hm : a i j * a k q = a i q * a k j
          · rw [hm, bne_self_eq_false]
            refine ex_nil (ex_nil ⟨fun q' hq' => ?_, rfl, rfl, rfl, rfl, rfl, trivial⟩)
            by_cases e : q' = q
            · rw [e]; exact hm
            · exact hz4 q' (by omega)
          · rw [show (a i j * a k q != a i q * a k j) = true by simp [hm]]
            exact ex_cons (ex_ret (ev_int (.inr ⟨rfl, hD, fun z => hm (z i k j q hiR hki hjC hqj)⟩)))
        · rintro ρ5 ⟨hz4, v0, v1, v2, v3, v4, _⟩
          rw [rangeL_length] at hz4
          refine ex_nil ⟨fun j' q hj' hq => ?_, v1, v2, v3, v4, trivial⟩
          by_cases e : j' = j
          · subst e; exact hz4 q (by omega)
          · exact hz3 j' q (by omega) hq
      · rintro ρ4 ⟨hz3, u0, u1, u2, u3, _⟩
        rw [rangeL_length] at hz3
        refine ex_nil ⟨fun k' j q hk' hj hq => ?_, u1, u2, u3, trivial⟩
        by_cases e : k' = k
        · subst e; exact hz3 j q (by omega) hq
        · exact hz2 k' j q (by omega) hj hq
    · rintro ρ3 ⟨hz2, t0, t1, t2, _⟩
      rw [rangeL_length] at hz2
      refine ex_nil ⟨fun i' k j q hi' hk hj hq => ?_, t1, t2, trivial⟩
      by_cases e : i' = i
      · subst e; exact hz2 k j q (by omega) hj hq
      · exact hz i' k j q (by omega) hk hj hq
  · rintro ρ2 ⟨hz, s1, s2, _⟩
    rw [rangeL_length] at hz
    exact ex_nil ⟨hD, fun i k j q h1 h2 h3 h4 => hz i k j q (by omega) h2 h3 h4, s1, trivial⟩
end Mine

set_option maxRecDepth 100000
set_option autoImplicit false
set_option linter.unusedVariables false
namespace Mine
open PySem PySem.W PySem.Calls PyProof.Rows PySem.Spec
def Rk (R C : Nat) (a : Nat → Nat → Int) (n : Int) : Prop :=
  (n = 3 ∧ D3 R C a) ∨ (n = 2 ∧ ¬ D3 R C a ∧ ¬ ZI2 R C a) ∨ (n = 1 ∧ ¬ D3 R C a ∧ ZI2 R C a ∧ ¬ ZI1 R C a) ∨ (n = 0 ∧ ¬ D3 R C a ∧ ZI2 R C a ∧ ZI1 R C a)
theorem any_flat {R C : Nat} (bv : Nat → Nat → Bool) : ((List.range (R * C)).map fun t => bv (t / C) (t % C)).any id = true ↔ ∃ i j, i < R ∧ j < C ∧ bv i j = true := by
  rw [List.any_eq_true]
  constructor
  · rintro ⟨b, hb, h⟩
    obtain ⟨t, ht, rfl⟩ := List.mem_map.mp hb
    have ht' := List.mem_range.mp ht
    have hC : 0 < C := by
      rcases Nat.eq_zero_or_pos C with e | e
      · subst e; simp at ht'
      · exact e
    exact ⟨t / C, t % C, (Nat.div_lt_iff_lt_mul hC).mpr ht', Nat.mod_lt _ hC, h⟩
  · rintro ⟨i, j, hi, hj, h⟩
    refine ⟨bv i j, List.mem_map.mpr ⟨i * C + j, List.mem_range.mpr ?_, ?_⟩, h⟩
    · have : i * C + C ≤ R * C := by rw [← Nat.succ_mul]; exact Nat.mul_le_mul_right _ hi
      omega
    · have h1 : (i * C + j) / C = i := by
        rw [Nat.mul_comm, Nat.mul_add_div (by omega), Nat.div_eq_of_lt hj, Nat.add_zero]
      have h2 : (i * C + j) % C = j := by
        rw [Nat.mul_comm, Nat.mul_add_mod, Nat.mod_eq_of_lt hj]
      rw [h1, h2]
theorem lrank {W : Wd} {f c P : Addr} {pm doc : Value} (hf : W.Fun f (fdOf (fdef pp 16) pm (.ref c) doc)) (T : Tab W.base c P) (G : Bi W) (hany : W.Gl "any" (.builtin "any")) (R C : Nat) (a : Nat → Nat → Int) (hR : R ≤ 3) (hC : C ≤ 3) (ha : Bd6 R C a)
    {A : Around} {s : Shared} {O : Addr → Prop} {vs : List Value} {Q E : Value → Shared → Prop} (rm : Rm 2 A) (kb : Kp W.base s.heap) (al : ∀ a, O a → ∃ o, s.heap.get? a = some o) (r : RpAll O s.heap vs [matI R C a, .int (R : Int), .int (C : Int)])
    (q : ∀ n t s', Rk R C a n → AnyS c P s s' → Q (.int n t) s') : wpAny (model W.prog W.w) A (call (.ref f) vs) Q E s := by
  refine call_enter (O := O) (names := ["a", "r", "c"]) hf (defOk rfl rfl rfl (fun vs h => match vs, h with | [_, _, _], _ => rfl) (by decide) rfl) rfl rm kb al r fun s₁ sm I E' => ?_
  have rm1 := rm.deeper (env := callEnvC (fdOf (fdef pp 16) pm (.ref c) doc) s.heap.objs.size f)
  rw [← List.take_append_drop 2 (fdef pp 16).body]
  refine ex_then (lr_pre G R C a hR hC ha rm1.hh) I fun o fl s' p mo g => ?_
  have mo' := sm.trans mo
  cases o with
  | brk _ => exact p.elim
  | cont _ => exact p.elim
  | reto _ => exact p.elim
  | ret d =>
    obtain ⟨v, rfl, g1, g2⟩ := g
    have k1 : Kp s.heap s'.heap := g1
    have fin : ∀ n t, Rk R C a n → Q (.int n t) s' := fun n t h => q n t s' h ⟨fun b o _ e => k1 b o e, ⟨#[], by simpa using T.tab.keeps (kb.trans k1)⟩, mo'.os, mo'.gs⟩
    refine wpAny_pure ?_
    rcases p with ⟨rfl, h⟩ | ⟨rfl, h⟩
    · obtain ⟨t, rfl⟩ := g2.int_inv
      exact fin 3 t (.inl ⟨rfl, h⟩)
    · obtain ⟨t, rfl⟩ := g2.int_inv
      exact fin 2 t (.inr (.inl ⟨rfl, h⟩))
  | next ρ' =>
    obtain ⟨rfl, O', m, ad, I'⟩ := g
    obtain ⟨hD, hz, sa, _⟩ := p
    obtain ⟨v, nv, rv⟩ := I'.rd.at_ "a" _ sa
    obtain ⟨l, ws, rfl, hl, rs, _⟩ := rv.list_inv
    have k1 : Kp s.heap s'.heap := I'.kk
    have hlen : ws.length = R := by rw [rs.length]; simp
    have hex : ∀ i : Nat, ∃ x : Addr × List Value, i < R → ws[i]? = some (.ref x.1) ∧ s'.heap.IsList x.1 x.2.toArray ∧ RpAll O' s'.heap x.2 ((List.range C).map fun j => .int (a i j)) := fun i => by
      by_cases hi : i < R
      · obtain ⟨u, hu, ru⟩ := rs.get (i := i) (d := rowI C (a i)) (matI_get hi)
        obtain ⟨b, us, rfl, hb, rb, _⟩ := ru.list_inv
        exact ⟨(b, us), fun _ => ⟨hu, hb, rb⟩⟩
      · exact ⟨(0, []), fun h => absurd h hi⟩
    have R0 : Rd W (callEnvC (fdOf (fdef pp 16) pm (.ref c) doc) s.heap.objs.size f) [] O' m s'.heap := ⟨I'.rd.fn, I'.rd.gl, I'.rd.bi, I'.rd.ns, fun x d e => (nomatch e), I'.rd.al, I'.rd.gr⟩
    have Tc : Tab s'.heap c P := T.keeps (kb.trans k1)
    have test : ∀ (Q2 : Bool → Shared → Prop) (E2 : Value → Shared → Prop), (∀ b s'', (b = true ↔ ∃ i j, i < R ∧ j < C ∧ (a i j != 0) = true) → AnyS c P s' s'' → Q2 b s'') →
        wpAny (model W.prog W.w) (A.deeper (callEnvC (fdOf (fdef pp 16) pm (.ref c) doc) s.heap.objs.size f)) (isTrue (match (fdef pp 16).body[2]? with | some (Stmt.If t _ _ _) => t | _ => .Constant .none 0 ⟨0, 0, 0, 0⟩) (callEnvC (fdOf (fdef pp 16) pm (.ref c) doc) s.heap.objs.size f) (eval (match (fdef pp 16).body[2]? with | some (Stmt.If t _ _ _) => t | _ => .Constant .none 0 ⟨0, 0, 0, 0⟩) (callEnvC (fdOf (fdef pp 16) pm (.ref c) doc) s.heap.objs.size f))) Q2 E2 s' := by
      intro Q2 E2 q2
      refine wpAny_isTrue_value (any_two (c := c) (P := P) (l := l) (vs := ws) (n := R) (k := C) (O := O') (m := m) (fun i => (Classical.choose (hex i)).1) (fun i => (Classical.choose (hex i)).2.toArray) (fun i j => a i j != 0) R0 hany rm1.hh ?_ Tc rfl nv hl hlen (fun i hi => ?_) (fun cenv i j v t m₂ A' hsc hi hA hU hv hns hm hk Q' E' q' => ?_) (fun s'' an => wpAny_truthy_bool (q2 _ s'' (any_flat fun i j => a i j != 0) an)) rfl rfl (by decide) rfl rfl rfl rfl rfl rfl (fun _ _ => rfl) (fun _ => rfl) rfl rfl) rfl
      · have := rm1.dp; omega
      · have h := Classical.choose_spec (hex i) hi
        exact ⟨h.1, h.2.1, by rw [List.size_toArray, h.2.2.length]; simp⟩
      · have h := Classical.choose_spec (hex i) hi
        have hj : j < C := by
          have h1 : j < (Classical.choose (hex i)).2.length := by
            have := (Array.getElem?_eq_some_iff.mp hv).1
            simpa using this
          rw [h.2.2.length] at h1
          simpa using h1
        obtain ⟨u, hu, ru⟩ := h.2.2.get (i := j) (d := .int (a i j)) (rowI_get hj)
        have ev : v = u := by
          have h2 : (Classical.choose (hex i)).2[j]? = some v := by simpa using hv
          rw [hu] at h2; exact (Option.some.inj h2).symm
        subst ev
        obtain ⟨tk, rfl⟩ := ru.int_inv
        have hkl : cenv.kindOf "v" = some .local := by
          unfold Env.kindOf
          rw [hsc]; rfl
        refine wpAny_Compare1 (wpAny_Name (wpAny_loadName_local (v := .int (a i j) tk) (by rw [hsc]) hkl hns hm ?_) rfl) rfl
        refine wpAny_Constant_int ?_
        exact ne_int (q' _ ⟨t.heap, t.toks + 1, rfl, fun _ _ e => e⟩)
    refine wpAny_execs_cons (wpAny_If (test _ _ fun b s'' hb an => ?_))
    have anS : AnyS c P s s'' := ⟨fun b o hb e => an.keep b o hb (k1 b o e), an.tab, an.os.trans mo'.os, fun ha => an.gs (mo'.gs ha)⟩
    cases b with
    | true =>
      refine wpAny_execs_cons (wpAny_Return_some (wpAny_Constant_int ?_))
      obtain ⟨i, j, hi, hj, hne⟩ := hb.mp rfl
      exact q 1 _ _ (.inr (.inr (.inl ⟨rfl, hD, hz, fun z1 => by rw [z1 i j hi hj] at hne; exact absurd hne (by decide)⟩))) ⟨anS.keep, anS.tab, anS.os, anS.gs⟩
    | false =>
      refine wpAny_execs_nil (wpAny_execs_cons (wpAny_Return_some (wpAny_Constant_int ?_)))
      refine q 0 _ _ (.inr (.inr (.inr ⟨rfl, hD, hz, fun i j hi hj => ?_⟩))) ⟨anS.keep, anS.tab, anS.os, anS.gs⟩
      by_cases e : a i j = 0
      · exact e
      · exact absurd (hb.mpr ⟨i, j, hi, hj, by simp [e]⟩) (by decide)
end Mine

set_option maxRecDepth 100000
set_option autoImplicit false
set_option linter.unusedVariables false
namespace Mine
open PySem PySem.W PySem.Calls PyProof.Rows PySem.Spec
section
variable {W : Wd} {A : Around} {env : Env} {ρ : Store} {P : Out → Prop}
/-- x[i] = [ints], the right side reads x -/
theorem ex_setitem_b {x : Str} {xp sp pos : Pos} {pl : Bool} {ds : List PyData} {i value : Expr} (hx : ρ.lookup x = some (.own pl ds))
    (g : EVo W A env ((x, .sh (.list ds)) :: ρ) value fun es => ∃ is : List Int, es = is.map .int ∧ EV W A env ρ i fun b => match b with | .int j => 0 ≤ j ∧ j < ds.length ∧ j < 2 ^ 63 ∧ P (.next ((x, .own false (ds.set j.toNat (.list (is.map .int)))) :: ρ)) | _ => False)
    (hs : swapsWith value (some (.Subscript (.Name x xp) i sp)) pos.line env = pure false := by rfl) (hd : (x == ("__debug__" : Str)) = false := by decide) : EX1 W A env ρ (.Assign [.Subscript (.Name x xp) i sp] value pos) P := by
  intro k O₀ s I Q E f
  obtain ⟨O, m, ad, I⟩ := I
  have Ish := I.share hx
  refine wpAny_Assign_Subscript (g s _ m Ish.rd _ _ fun D vs es s₁ hD k₁ hl r p => ?_) hs
  obtain ⟨is, rfl, p⟩ := p
  have rD : Rp O s₁.heap (.ref D) (.list (is.map .int)) := Rp.of_list hl.isList r.ints (I.rd.fresh hD)
  refine load_own (I.keeps k₁.kp) hx hd ?_
  refine p _ O m (I.keeps k₁.kp).rd _ _ fun iv b s₂ k₂ rb z => ?_
  cases b <;> try exact z.elim
  rename_i j
  obtain ⟨z1, z2, z3, p⟩ := z
  obtain ⟨u, rfl⟩ := rb.int_inv
  have J := (I.keeps k₁.kp).keeps k₂.kp
  obtain ⟨vs', n, oO, nO, kn, l, rs⟩ := J.ow x pl ds hx
  obtain ⟨oa, ea, ca, na, da⟩ := l.isList
  refine wpAny_setItem_list l.isList z1 z3 (by rw [List.size_toArray, rs.length]; exact z2) fun h₃ l₃ s₃ => ?_
  have b₃ : ∀ b o, b ≠ ad x → s₂.heap.get? b = some o → h₃.get? b = some o := fun b o hb e => s₃.extBut b o hb e
  refine f (.next _) _ _ p ((k₁.trans k₂).mo.trans .heap) ⟨rfl, O, m, ad, J.changed (pl' := false) (vs' := vs'.set j.toNat (.ref D)) hx b₃ ?_ ((rs.set j.toNat (rD.keeps k₂.kp)).butOwn ea ca oO b₃)⟩
  have e3 : (vs'.toArray.setIfInBounds j.toNat (.ref D)) = (vs'.set j.toNat (.ref D)).toArray := by simp
  rw [e3] at l₃
  exact l₃
end
theorem rangeL_map (n : Nat) (g : Int → PyData) : (rangeL 0 (n : Int)).map (onInt g) = (List.range n).map fun (i : Nat) => g (i : Int) := by
  unfold rangeL
  rw [List.map_map]
  have e0 : ((n : Int) - 0).toNat = n := by omega
  rw [e0]
  refine List.map_congr_left fun i _ => ?_
  show g (0 + (i : Int)) = g (i : Int)
  rw [Int.zero_add]
theorem cell24 {W : Wd} {f : Addr} (D : W.Df (fdef pp 15) f) (hlen : W.Gl "len" (.builtin "len")) (ns : List Int) (hn : ns.length ≤ 63) (i : Int) (h0 : 0 ≤ i) (h1 : i < 2 ^ 20) : FN W 1 f [.list (ns.map .int), .int i] fun d => d = .int (cellv ns i) := by
  obtain ⟨hg, pm, code, doc, hf⟩ := D
  refine fn_of hf (names := ["script", "i"]) (defOk rfl rfl rfl (fun vs h => match vs, h with | [_, _], _ => rfl) (by decide) rfl) rfl fun A L rm => ?_
  refine ex_cons (ex_if (tv_cmp (ev_name rfl (ev_len hlen (ev_name rfl ⟨by simp; omega, ?_⟩)))))
  refine co_lt ?_
  by_cases hi : i < (ns.length : Int)
  · rw [decide_eq_true (by simpa using hi)]
    refine ex_cons (ex_ret (ev_sub (ev_name rfl (ev_name rfl ⟨h0, by omega, .int (cellv ns i), ?_, rfl⟩))))
    have hlt : i.toNat < ns.length := by omega
    simp [cellv, List.getD, hlt]
  · rw [decide_eq_false (by simpa using hi)]
    refine ex_nil (ex_cons (ex_ret (ev_int ?_)))
    have hge : ns.length ≤ i.toNat := by omega
    simp [cellv, List.getD, hge]
structure F24 (W : Wd) (fl fc fk c P : Addr) (pmk dck : Value) : Prop where
  fs : Fs W
  law : W.Df (fdef pp 17) fl
  cell : W.Df (fdef pp 15) fc
  rkg : W.Gl (fdef pp 16).name (.ref fk)
  rkf : W.Fun fk (fdOf (fdef pp 16) pmk (.ref c) dck)
  tab : Tab W.base c P
  any : W.Gl "any" (.builtin "any")
  type : W.Gl "type" (.type "type")
  int : W.Gl "int" (.type "int")
/-- what stands before the rank is asked of the text -/
def pre24 : Out → Prop
  | .next ρ' => ∃ (R C : Nat) (a : Nat → Nat → Int) (M : Nat → Nat → Rat) (d : Nat → Rat), R ≤ 3 ∧ C ≤ 3 ∧ Bd6 R C a ∧ (∀ i, i < R → d i ≠ 0) ∧ (∀ i j, i < R → j < C → (a i j : Rat) = d i * M i j) ∧
      SubS [("a", .sh (matI R C a)), ("r", .sh (.int (R : Int))), ("c", .sh (.int (C : Int))), ("m", .sh (matF R C M)), ("kept", .sh (matF R C M)), ("got", .sh (.int ((stM R M C).2.length : Int)))] ρ'
  | _ => False
open PySem.Builtin.Int in
theorem law24_pre {W : Wd} {fl fc fk c P : Addr} {pmk dck : Value} (F : F24 W fl fc fk c P pmk dck) (ns : List Int) (hn : ns.length ≤ 63) {A : Around} {L : Addr} {pm code doc : Value} (rm : Rm 6 A) :
    EX W A (callEnvC (fdOf (fdef pp 17) pm code doc) L fl) [("script", .sh (.list (ns.map .int)))] ((fdef pp 17).body.take 11) pre24 := by
  obtain ⟨hgc, pmc, codec, docc, hfc⟩ := id F.cell
  obtain ⟨ff, DF⟩ := F.fs.frac
  obtain ⟨gg, DG⟩ := F.fs.gcd
  obtain ⟨fr', DR⟩ := F.fs.rank
  have fracc := fun n d hd h => (frac_c DF DG F.fs.bi n d hd h).up (show 2 ≤ 6 by decide)
  have rankc := fun R C M hR hC hM hB => rankof_c F.fs DR R C 6 M hR hC hM hB
  obtain ⟨hgf, pmf, codef, docf, hff⟩ := DF
  obtain ⟨hgr, pmr, coder, docr, hfr⟩ := DR
  have cell : ∀ i : Int, 0 ≤ i → i < 2 ^ 20 → FN W 6 fc [.list (ns.map .int), .int i] fun d => d = .int (cellv ns i) := fun i h0 h1 => (cell24 F.cell F.fs.bi.len ns hn i h0 h1).up (by decide)
  refine ex_cons (ex_assign (.inl rfl) (ev_bin (ev_call rm hgc hfc (evs_cons (ev_name rfl (evs_cons (ev_int (evs_nil ((cell 0 (by decide) (by decide)).mono fun d e => ?_)))))))))
  subst e
  refine ev_int (bo_mod (by decide) ?_)
  have r0 := Int.fmod_nonneg_of_pos (cellv ns 0) (b := 4) (by decide)
  have r1 := Int.fmod_lt_of_pos (cellv ns 0) (b := 4) (by decide)
  generalize (cellv ns 0).fmod 4 = r at r0 r1
  obtain ⟨R, rfl⟩ := Int.eq_ofNat_of_zero_le r0
  refine ex_cons (ex_assign (.inr ⟨rfl, _, rfl⟩) (ev_bin (ev_call rm hgc hfc (evs_cons (ev_name rfl (evs_cons (ev_int (evs_nil ((cell 1 (by decide) (by decide)).mono fun d e => ?_)))))))))
  subst e
  refine ev_int (bo_mod (by decide) ?_)
  have c0 := Int.fmod_nonneg_of_pos (cellv ns 1) (b := 4) (by decide)
  have c1 := Int.fmod_lt_of_pos (cellv ns 1) (b := 4) (by decide)
  generalize (cellv ns 1).fmod 4 = cc at c0 c1
  obtain ⟨C, rfl⟩ := Int.eq_ofNat_of_zero_le c0
  refine ex_cons (ex_assign (.inl rfl) (ev_bin (ev_call rm hgc hfc (evs_cons (ev_name rfl (evs_cons (ev_int (evs_nil ((cell 2 (by decide) (by decide)).mono fun d e => ?_)))))))))
  subst e
  refine ev_int (bo_mod (by decide) ?_)
  have m0 := Int.fmod_nonneg_of_pos (cellv ns 2) (b := 8) (by decide)
  have m1 := Int.fmod_lt_of_pos (cellv ns 2) (b := 8) (by decide)
  generalize (cellv ns 2).fmod 8 = mo at m0 m1
  refine ex_cons (ex_assign (.inr ⟨rfl, _, rfl⟩) (ev_bin (ev_name rfl (ev_int (bo_add ?_)))))
  generalize hsp : mo + 1 = sp
  refine ex_cons (ex_assign (.inr ⟨rfl, _, rfl⟩) (ev_bin (ev_bin (ev_call rm hgc hfc (evs_cons (ev_name rfl (evs_cons (ev_int (evs_nil ((cell 3 (by decide) (by decide)).mono fun d e => ?_))))))))))
  subst e
  refine ev_int (bo_mod (by decide) (ev_int (bo_add ?_)))
  have d0 := Int.fmod_nonneg_of_pos (cellv ns 3) (b := 6) (by decide)
  have d1 := Int.fmod_lt_of_pos (cellv ns 3) (b := 6) (by decide)
  generalize hde : (cellv ns 3).fmod 6 + 1 = de
  have spb : 1 ≤ sp ∧ sp ≤ 8 := by omega
  have deb : 1 ≤ de ∧ de ≤ 6 := by omega
  have spm : IntMulOk 2 sp := IntMulOk.of_le (m := 2) (n := 6) (by decide) (bits_of (by omega)) (by decide)
  refine ex_cons (ex_assign_own (.inr ⟨rfl, _, rfl⟩) (evo_comp (fr := ["c", "script", "span"]) (compOkC rfl rfl (by decide) (fun _ => ⟨rfl, _, rfl, .head _⟩) fun _ => ⟨⟨by decide, rfl, rfl, rfl⟩, ⟨by decide, rfl, rfl, rfl⟩, ⟨by decide, rfl, rfl, rfl⟩, trivial⟩) (onInt fun i => .list ((rangeL 0 (C : Int)).map (onInt fun j => .int ((cellv ns (4 + 3 * i + j) + sp).fmod (2 * sp + 1) - sp)))) (fun _ => true) (it_range1 rm.hh F.fs.bi.range (ev_name rfl ⟨by omega, by omega, fun d hd _ => ⟨rfl, fun _ => ?_⟩, ?_⟩))))
  · obtain ⟨i, rfl, i0, i1⟩ := rangeL_mem hd
    refine EV.of_own (evo_comp (fr := ["i", "script", "span"]) (compOk rfl rfl (by decide) (fun _ => rfl) fun _ => ⟨⟨by decide, rfl, rfl, rfl⟩, ⟨by decide, rfl, rfl, rfl⟩, ⟨by decide, rfl, rfl, rfl⟩, trivial⟩) (onInt fun j => .int ((cellv ns (4 + 3 * i + j) + sp).fmod (2 * sp + 1) - sp)) (fun _ => true) (it_range1 rm.hh F.fs.bi.range (ev_name rfl ⟨by omega, by omega, fun d hd _ => ⟨rfl, fun _ => ?_⟩, ?_⟩)))
    · obtain ⟨j, rfl, j0, j1⟩ := rangeL_mem hd
      refine ev_bin (ev_bin (ev_bin (ev_call rm hgc hfc (evs_cons (ev_name rfl (evs_cons (ev_bin (ev_bin (ev_int (ev_bin (ev_int (ev_name rfl (bo_mul (IntMulOk.of_le (m := 2) (n := 6) (by decide) (bits_of (by omega)) (by decide)) (bo_add (ev_name rfl (bo_add ?_))))))))))))))))
      refine evs_nil ((cell (4 + 3 * i + j) (by omega) (by omega)).mono fun d e => ?_)
      subst e
      exact ev_name rfl (bo_add (ev_bin (ev_bin (ev_int (ev_name rfl (bo_mul spm (ev_int (bo_add (bo_mod (by omega) (ev_name rfl (bo_sub rfl)))))))))))
    · rw [filtT]; rfl
  rw [filtT, rangeL_map]
  obtain ⟨a0, ha0⟩ : ∃ a0 : Nat → Nat → Int, ∀ i j : Nat, a0 i j = (cellv ns (4 + 3 * (i : Int) + (j : Int)) + sp).fmod (2 * sp + 1) - sp := ⟨_, fun _ _ => rfl⟩
  have ea : ((List.range R).map fun (i : Nat) => PyData.list ((rangeL 0 (C : Int)).map (onInt fun j => .int ((cellv ns (4 + 3 * (i : Int) + j) + sp).fmod (2 * sp + 1) - sp)))) = (List.range R).map fun (i : Nat) => rowI C (a0 i) := by
    refine List.map_congr_left fun i _ => ?_
    rw [rangeL_map]
    unfold rowI
    congr 1
    refine List.map_congr_left fun j _ => ?_
    rw [ha0]
  rw [ea]
  have hb : ∀ i j : Nat, -sp ≤ a0 i j ∧ a0 i j ≤ sp := fun i j => by
    rw [ha0]
    have h0 := Int.fmod_nonneg_of_pos (cellv ns (4 + 3 * (i : Int) + (j : Int)) + sp) (b := 2 * sp + 1) (by omega)
    have h1 := Int.fmod_lt_of_pos (cellv ns (4 + 3 * (i : Int) + (j : Int)) + sp) (b := 2 * sp + 1) (by omega)
    omega
  clear ha0 ea
  refine ex_cut (fun ρ' => ∃ a : Nat → Nat → Int, Bd6 R C a ∧ SubS [("a", .sh (matI R C a)), ("r", .sh (.int (R : Int))), ("c", .sh (.int (C : Int))), ("den", .sh (.int de))] ρ') (ex_if (tv_and (tv_cmp (ev_name rfl (ev_int (co_eqI ?_)))))) ?_
  · by_cases hR3 : R = 3
    · rw [show ((R : Int) == 3) = true by simp; omega, if_pos rfl]
      refine tv_cmp (ev_bin (ev_name rfl (ev_int (bo_mod (by decide) (ev_int (co_eqI ?_))))))
      by_cases hm3 : mo.fmod 4 = 3
      · rw [show (mo.fmod 4 == 3) = true by simp [hm3]]
        have bm : ∀ j : Nat, IntMulOk 2 (a0 0 j) := fun j => IntMulOk.of_le (m := 2) (n := 6) (by decide) (bits_of (by have := hb 0 j; omega)) (by decide)
        refine ex_cons (ex_setitem_b rfl (evo_comp (fr := ["a"]) (compOk rfl rfl (by decide) (fun _ => rfl) fun _ => ⟨⟨by decide, rfl, rfl, rfl⟩, trivial⟩) (onInt fun j => .int (2 * a0 0 j.toNat - a0 1 j.toNat)) (fun _ => true) (it_range1 rm.hh F.fs.bi.range (ev_name rfl ⟨by omega, by omega, fun d hd _ => ⟨rfl, fun _ => ?_⟩, ?_⟩))))
        · obtain ⟨j, rfl, j0, j1⟩ := rangeL_mem hd
          have ej : ((j.toNat : Nat) : Int) = j := by omega
          refine ev_bin (ev_bin (ev_int (ev_cellI (R := R) (C := C) (a := a0) rfl (by omega) (by omega) (ev_int ⟨0, rfl, by omega, ev_name rfl ⟨j.toNat, by rw [ej], by omega, bo_mul (bm _) ?_⟩⟩))))
          exact ev_cellI (R := R) (C := C) (a := a0) rfl (by omega) (by omega) (ev_int ⟨1, rfl, by omega, ev_name rfl ⟨j.toNat, by rw [ej], by omega, bo_sub rfl⟩⟩)
        rw [filtT, rangeL_map]
        refine ⟨(List.range C).map fun (j : Nat) => 2 * a0 0 j - a0 1 j, by rw [List.map_map]; rfl, ev_int ⟨by decide, by simp; omega, by decide, ?_⟩⟩
        refine ex_share "a" rfl (ex_nil ⟨fun i => if i = 2 then (fun j => 2 * a0 0 j - a0 1 j) else a0 i, fun i j hi hj => ?_, ?_, rfl, rfl, rfl, trivial⟩)
        · have h0 := hb 0 j
          have h1 := hb 1 j
          have h2 := hb i j
          by_cases e : i = 2
          · simp only [if_pos e]; omega
          · simp only [if_neg e]; omega
        · show some (Slot.sh (PyData.list (((List.range R).map fun (i : Nat) => rowI C (a0 i)).set 2 (.list (((List.range C).map fun (j : Nat) => 2 * a0 0 j - a0 1 j).map .int))))) = _
          rw [map_set, List.map_map]
          unfold matI
          congr 3
          refine List.map_congr_left fun i _ => ?_
          by_cases e : i = 2
          · simp only [if_pos e]; rfl
          · simp only [if_neg e]
      · rw [show (mo.fmod 4 == 3) = false by simp [hm3]]
        exact ex_share "a" rfl (ex_nil ⟨a0, fun i j hi hj => by have := hb i j; omega, rfl, rfl, rfl, rfl, trivial⟩)
    · rw [show ((R : Int) == 3) = false by simp; omega, if_neg (by decide)]
      exact ex_share "a" rfl (ex_nil ⟨a0, fun i j hi hj => by have := hb i j; omega, rfl, rfl, rfl, rfl, trivial⟩)
  rintro ρ1 ⟨a, ha, q1, q2, q3, q4, _⟩
  refine ex_weak (ρ' := [("a", .sh (matI R C a)), ("r", .sh (.int (R : Int))), ("c", .sh (.int (C : Int))), ("den", .sh (.int de))]) ⟨q1, q2, q3, q4, trivial⟩ ?_
  have hne : ∀ i : Nat, de + (i : Int) ≠ 0 := fun i => by omega
  have hsum : ∀ i j : Nat, i < R → j < C → (a i j).natAbs + (de + (i : Int)).natAbs < 2 ^ 1900 := fun i j hi hj => by
    have := ha i j hi hj
    exact Nat.lt_of_lt_of_le (show (a i j).natAbs + (de + (i : Int)).natAbs < 2 ^ 7 by omega) (Nat.pow_le_pow_right (by decide) (by decide))
  refine ex_cons (ex_assign_comp (fr := ["a", "c", "den"]) rfl (compOkC rfl rfl (by decide) (fun _ => ⟨rfl, _, rfl, .head _⟩) fun _ => ⟨⟨by decide, rfl, rfl, rfl⟩, ⟨by decide, rfl, rfl, rfl⟩, ⟨by decide, rfl, rfl, rfl⟩, trivial⟩) (onInt fun i => rowF C fun j => Rat.divInt (a i.toNat j) (de + i)) (fun _ => true) (it_range1 rm.hh F.fs.bi.range (ev_name rfl ⟨by omega, by omega, fun d hd _ => ⟨rfl, fun _ => ?_⟩, ?_⟩)))
  · obtain ⟨i, rfl, i0, i1⟩ := rangeL_mem hd
    have ei : ((i.toNat : Nat) : Int) = i := by omega
    refine EV.of_own (evo_comp (fr := ["a", "den", "i"]) (compOk rfl rfl (by decide) (fun _ => rfl) fun _ => ⟨⟨by decide, rfl, rfl, rfl⟩, ⟨by decide, rfl, rfl, rfl⟩, ⟨by decide, rfl, rfl, rfl⟩, trivial⟩) (onInt fun j => fr (Rat.divInt (a i.toNat j.toNat) (de + i))) (fun _ => true) (it_range1 rm.hh F.fs.bi.range (ev_name rfl ⟨by omega, by omega, fun d hd _ => ⟨rfl, fun _ => ?_⟩, ?_⟩)))
    · obtain ⟨j, rfl, j0, j1⟩ := rangeL_mem hd
      have ej : ((j.toNat : Nat) : Int) = j := by omega
      refine ev_call rm hgf hff (evs_cons (ev_cellI (R := R) (C := C) (a := a) rfl (by omega) (by omega) (ev_name rfl ⟨i.toNat, by rw [ei], by omega, ev_name rfl ⟨j.toNat, by rw [ej], by omega, evs_cons (ev_bin (ev_name rfl (ev_name rfl (bo_add (evs_nil ?_)))))⟩⟩)))
      refine (fracc _ _ (by omega) ?_).mono fun d e => e
      have := hsum i.toNat j.toNat (by omega) (by omega)
      rw [ei] at this
      exact this
    · rw [filtT, rangeL_map]; rfl
  rw [filtT, rangeL_map]
  obtain ⟨M, hM⟩ : ∃ M : Nat → Nat → Rat, ∀ i j : Nat, M i j = Rat.divInt (a i j) (de + (i : Int)) := ⟨_, fun _ _ => rfl⟩
  have em : ((List.range R).map fun (i : Nat) => rowF C fun j => Rat.divInt (a ((i : Int)).toNat j) (de + (i : Int))) = matL R C M := by
    unfold matL
    refine List.map_congr_left fun i _ => ?_
    unfold rowF
    congr 1
    refine List.map_congr_left fun j _ => ?_
    rw [hM]; rfl
  rw [em]
  have szM : SzM R C 6 M := fun i j hi hj => by
    rw [hM]
    exact sz_divInt (hne i) (ha i j hi hj) (by omega)
  refine ex_share "m" rfl ?_
  refine ex_cons (ex_assign_comp (fr := []) rfl (compOk rfl rfl (by decide) (fun _ => rfl) fun _ => trivial) (fun d => d) (fun _ => true) (it_list rm.hh (ev_name rfl ⟨by rw [matL_length]; omega, fun d hd _ => ⟨rfl, fun _ => ?_⟩, ?_⟩)))
  · obtain ⟨i, hi, rfl⟩ := mat_mem hd
    exact EV.of_own (evo_slice (ev_name rfl ⟨by simp; omega, rfl⟩))
  rw [filtT, List.map_id']
  refine ex_share "kept" rfl ?_
  refine ex_cons (ex_assign (.inl rfl) (ev_call rm hgr hfr (evs_cons (ev_name rfl (evs_cons (ev_name rfl (evs_nil ((rankc R C M (by omega) (by omega) szM (fun c hc => ?_)).mono fun d e => ?_))))))))
  · have : c = 0 ∨ c = 1 ∨ c = 2 := by omega
    rcases this with rfl | rfl | rfl <;> decide
  subst e
  refine ex_cons (ex_if (tv_not (tv_typeIs F.type F.int (ev_name rfl ⟨.inl rfl, ?_⟩))))
  refine ex_nil (ex_nil ⟨R, C, a, M, fun i => ((de + (i : Int) : Int) : Rat), by omega, by omega, ha, fun i _ => cast_ne (hne i), fun i j hi hj => ?_, rfl, rfl, rfl, rfl, rfl, rfl, trivial⟩)
  rw [hM, Rat.divInt_eq_div]
  have := cast_ne (hne i)
  grind
end Mine

set_option maxRecDepth 100000
set_option autoImplicit false
set_option linter.unusedVariables false
namespace Mine
open PySem PySem.W PySem.Calls PyProof.Rows PySem.Spec
theorem cast_inj {x y : Int} (h : (x : Rat) = (y : Rat)) : x = y := by exact_mod_cast h
theorem z1_int {R C : Nat} {a : Nat → Nat → Int} : Z1 R C (fun i j => (a i j : Rat)) ↔ ZI1 R C a :=
  ⟨fun z i j hi hj => cast_inj (y := 0) (by have := z i j hi hj; simpa using this), fun z i j hi hj => by show ((a i j : Int) : Rat) = 0; rw [z i j hi hj]; rfl⟩
theorem z2_int {R C : Nat} {a : Nat → Nat → Int} : Z2 R C (fun i j => (a i j : Rat)) ↔ ZI2 R C a := by
  constructor
  · intro z i k j q hi hk hj hq
    have := z i k j q hi (by omega) hj (by omega)
    exact cast_inj (by rw [Rat.intCast_mul, Rat.intCast_mul]; exact this)
  · intro z i k j q hi hk hj hq
    have key : ∀ i k j q, i < R → k < i → j < C → q < j → (a i j : Rat) * (a k q : Rat) = (a i q : Rat) * (a k j : Rat) := fun i k j q h1 h2 h3 h4 => by
      rw [← Rat.intCast_mul, ← Rat.intCast_mul, z i k j q h1 h2 h3 h4]
    show (a i j : Rat) * (a k q : Rat) = (a i q : Rat) * (a k j : Rat)
    rcases Nat.lt_trichotomy i k with h1 | h1 | h1
    · rcases Nat.lt_trichotomy j q with h2 | h2 | h2
      · have := key k i q j hk h1 hq h2; grind
      · subst h2; grind
      · have := key k i j q hk h1 hj h2; grind
    · subst h1; grind
    · rcases Nat.lt_trichotomy j q with h2 | h2 | h2
      · have := key i k q j hi h1 hq h2; grind
      · subst h2; grind
      · have := key i k j q hi h1 hj h2; grind
theorem det_int (a : Nat → Nat → Int) : det3 (fun i j => (a i j : Rat)) = (det3I a : Rat) := by
  unfold det3 det3I
  simp only [Rat.intCast_add, Rat.intCast_sub, Rat.intCast_mul]
theorem rank_eq {R C : Nat} (hR : R ≤ 3) (hC : C ≤ 3) {a : Nat → Nat → Int} {M : Nat → Nat → Rat} (d : Nat → Rat) (hd : ∀ i, i < R → d i ≠ 0) (h : ∀ i j, i < R → j < C → (a i j : Rat) = d i * M i j) {n : Int} (hr : Rk R C a n) : n = ((stM R M C).2.length : Int) := by
  have al : Alike R C M (fun i j => (a i j : Rat)) := alike_scale d hd h
  have e1 : Z1 R C M ↔ ZI1 R C a := al.z1.trans z1_int
  have e2 : Z2 R C M ↔ ZI2 R C a := al.z2.trans z2_int
  have e3 : R = 3 → C = 3 → (det3 M = 0 ↔ det3I a = 0) := fun x y => (al.z3 x y).trans (by
    rw [det_int]
    exact ⟨fun z => cast_inj (y := 0) (by simpa using z), fun z => by rw [z]; rfl⟩)
  have hD : D3 R C a ↔ (R = 3 ∧ C = 3 ∧ det3 M ≠ 0) := ⟨fun ⟨x, y, z⟩ => ⟨x, y, fun w => z ((e3 x y).mp w)⟩, fun ⟨x, y, z⟩ => ⟨x, y, fun w => z ((e3 x y).mpr w)⟩⟩
  unfold Rk at hr
  rw [hD, ← e1, ← e2] at hr
  rcases rank_minors hR hC M with ⟨l, z1, z2, z3⟩ | ⟨l, z1, z2, z3⟩ | ⟨l, z2, z3⟩ | ⟨l, x, y, z3⟩
  · rw [l]
    rcases hr with ⟨rfl, x, y, w⟩ | ⟨rfl, _, w⟩ | ⟨rfl, _, _, w⟩ | ⟨rfl, _⟩
    · exact absurd (z3 x y) w
    · exact absurd z2 w
    · exact absurd z1 w
    · rfl
  · rw [l]
    rcases hr with ⟨rfl, x, y, w⟩ | ⟨rfl, _, w⟩ | ⟨rfl, _, _, w⟩ | ⟨rfl, _, _, w⟩
    · exact absurd (z3 x y) w
    · exact absurd z2 w
    · rfl
    · exact absurd w z1
  · rw [l]
    rcases hr with ⟨rfl, x, y, w⟩ | ⟨rfl, _, w⟩ | ⟨rfl, _, w, _⟩ | ⟨rfl, _, w, _⟩
    · exact absurd (z3 x y) w
    · rfl
    · exact absurd w z2
    · exact absurd w z2
  · rw [l]
    rcases hr with ⟨rfl, _⟩ | ⟨rfl, w, _⟩ | ⟨rfl, w, _⟩ | ⟨rfl, w, _⟩
    · rfl
    · exact absurd ⟨x, y, z3⟩ w
    · exact absurd ⟨x, y, z3⟩ w
    · exact absurd ⟨x, y, z3⟩ w
theorem law24_run {W : Wd} {fl fc fk c P : Addr} {pmk dck : Value} (F : F24 W fl fc fk c P pmk dck) (ns : List Int) (hn : ns.length ≤ 63) {A : Around} {s : Shared} {l : Addr} {as : List Addr} {Q E : Value → Shared → Prop} (rm : Rm 7 A) (hb : Kp W.base s.heap) (r : Reads s.heap (.ref l) (.list (ns.map .int)) as)
    (q : ∀ s', Mo s s' → (∀ b o, b ≠ P → s.heap.get? b = some o → s'.heap.get? b = some o) → (∃ more, s'.heap.TableAt c P (#[] ++ more)) → Q (.bool true) s') : wpAny (model W.prog W.w) A (call (.ref fl) [.ref l]) Q E s := by
  obtain ⟨hg, pm, code, doc, hf⟩ := id F.law
  have hTs : Tab s.heap c P := F.tab.keeps hb
  obtain ⟨oP, hP, nP⟩ := hTs.noSeq
  refine call_enter (O := fun _ => False) (names := ["script"]) hf (defOk rfl rfl rfl (fun vs h => match vs, h with | [_], _ => rfl) (by decide) rfl) rfl rm hb (fun _ q => q.elim) (show RpAll (fun _ => False) s.heap [.ref l] [.list (ns.map .int)] from .cons ⟨canLay_ints ns, as, r, fun _ _ q => q⟩ .nil) fun s₁ sm I E' => ?_
  have rm1 := rm.deeper (env := callEnvC (fdOf (fdef pp 17) pm code doc) s.heap.objs.size fl)
  rw [← List.take_append_drop 11 (fdef pp 17).body]
  refine ex_then (law24_pre F ns hn rm1) I fun o fl' s' p mo g => ?_
  have mo' := sm.trans mo
  cases o with
  | brk _ => exact p.elim
  | cont _ => exact p.elim
  | reto _ => exact p.elim
  | ret _ => exact p.elim
  | next ρ' =>
    obtain ⟨rfl, O', m, ad, I'⟩ := g
    obtain ⟨R, C, a, M, d, hR, hC, ha, hd, hdM, q1, q2, q3, q4, q5, q6, _⟩ := p
    have k1 : Kp s.heap s'.heap := I'.kk
    have I1 := I'.weak' (ρ' := [("a", .sh (matI R C a)), ("r", .sh (.int (R : Int))), ("c", .sh (.int (C : Int))), ("m", .sh (matF R C M)), ("kept", .sh (matF R C M)), ("got", .sh (.int ((stM R M C).2.length : Int)))]) ⟨q1, q2, q3, q4, q5, q6, trivial⟩
    refine wpAny_execs_cons (wpAny_If (wpAny_isTrue_Compare1 ?_ rfl))
    refine EV.use' (P := fun x => x = .int ((stM R M C).2.length : Int)) (ev_name rfl rfl) I1.rd fun v dd s₂ mv₂ rv ev => ?_
    subst ev
    obtain ⟨tk, rfl⟩ := rv.int_inv
    have I2 := I1.keeps mv₂.kp
    refine wpAny_Call_NameR (gname I2.rd F.rkg rfl (call_args I2.rd F.rkf (evs_cons (ev_name rfl (evs_cons (ev_name rfl (evs_cons (ev_name rfl (evs_nil rfl))))))) (fun vs ds s₃ k₃ r₃ p₃ => ?_) rfl) rfl)
    have p₃' : ds = [matI R C a, .int (R : Int), .int (C : Int)] := p₃.symm
    subst p₃'
    have I3 := I2.keeps k₃.kp
    refine lrank F.rkf F.tab F.fs.bi F.any R C a hR hC ha (rm1.le (by decide)) I3.rd.gr I3.rd.al r₃ fun n t s₄ hrk an => ?_
    have en := rank_eq hR hC d hd hdM hrk
    subst en
    refine ne_int (wpAny_truthy_bool ?_)
    rw [bne_self_eq_false]
    refine wpAny_execs_nil ?_
    -- the rest, without the table
    have kk3 : Kp s.heap s₃.heap := I3.kk
    have hT3 := hTs.keeps kk3
    have nk : ∀ b, (fun b => s.heap.get? b) b = none → b ≠ P := fun b e z => by
      have e' : s.heap.get? b = none := e
      rw [z, hP] at e'; cases e'
    have hOP : ¬ O' P := fun z => by
      rcases I3.okk P z with w | w
      · exact w
      · exact nk P w rfl
    have hLP := nk _ I3.kl
    have hcP : ∀ y cc, (callEnvC (fdOf (fdef pp 17) pm code doc) s.heap.objs.size fl).cells.lookup y = some cc → cc ≠ P := fun y cc e => nk _ (I3.kc y cc e).1
    have D1 := I3.drop (W' := ⟨W.prog, W.w, hole W.base P⟩) (k' := fun b => if b = P then none else s.heap.get? b) (fun b o e => (hole_some e).2) (fun b o e => by
      by_cases z : b = P
      · simp only [if_pos z] at e; cases e
      · simp only [if_neg z] at e; exact e) (fun b o e => by
      have := hole_some e
      simp only [if_neg this.1]
      exact hb b o this.2)
    have D2 := D1.butNs (h' := s₄.heap) hT3.noSeq (by simp) hLP hcP hOP (fun b o hb e => an.keep b o hb e)
    have D3 := D2.withK (fp := [P]) (fun z => hLP (List.mem_singleton.mp z)) (fun y cc e z => hcP y cc e (List.mem_singleton.mp z)) (fun x hx => by rw [List.mem_singleton.mp hx]; exact hOP) (fun x hx => by rw [List.mem_singleton.mp hx]; simp)
    have rest : EX ⟨W.prog, W.w, hole W.base P⟩ (A.deeper (callEnvC (fdOf (fdef pp 17) pm code doc) s.heap.objs.size fl)) (callEnvC (fdOf (fdef pp 17) pm code doc) s.heap.objs.size fl) [("a", .sh (matI R C a)), ("r", .sh (.int (R : Int))), ("c", .sh (.int (C : Int))), ("m", .sh (matF R C M)), ("kept", .sh (matF R C M)), ("got", .sh (.int ((stM R M C).2.length : Int)))] ((fdef pp 17).body.drop 12) (fun o => match o with | .ret d => d = .bool true | _ => False) := by
      refine ex_cons (ex_if (tv_cmp (ev_name rfl (ev_name rfl (co_ne rm1 ?_ ?_)))))
      · have := matF_depth R C M; omega
      rw [PySem.SeqAt.eqv_refl _ (matF_can R C M)]
      exact ex_nil (ex_cons (ex_ret (ev_bool rfl)))
    refine rest _ _ s₄ ⟨O', m, ad, D3⟩ _ _ fun o fl s₅ p₅ mo₅ g₅ => ?_
    cases o with
    | brk _ => exact p₅.elim
    | cont _ => exact p₅.elim
    | reto _ => exact p₅.elim
    | next _ => exact p₅.elim
    | ret dd =>
      obtain ⟨v, rfl, g1, g2⟩ := g₅
      have e5 : dd = .bool true := p₅
      subst e5
      rw [g2.bool_inv]
      have keepP : s₅.heap.get? P = s₄.heap.get? P := by
        obtain ⟨more, ht⟩ := an.tab
        rw [ht.2]
        exact g1 P _ (by show (if P ∈ [P] then s₄.heap.get? P else _) = _; rw [if_pos (List.mem_singleton.mpr rfl)]; exact ht.2)
      have keepO : ∀ b o, b ≠ P → s.heap.get? b = some o → s₅.heap.get? b = some o := fun b o hb e => g1 b o (by simp [hb]; exact e)
      refine q s₅ ((((mo'.trans mv₂.mo).trans k₃.mo).trans ⟨an.os, an.gs⟩).trans mo₅) keepO ?_
      obtain ⟨more, ⟨o, ws, ho, rr⟩, ht⟩ := an.tab
      obtain ⟨⟨oc, wc, hoc, cc, _⟩, _⟩ := hTs.tab
      have hcne : c ≠ P := fun z => by
        rw [z, hP] at hoc
        have := hTs.tab.2
        rw [hP] at this
        cases this; cases hoc; cases cc
      have eo : o = oc := by
        have h1 := an.keep c oc hcne (kk3 c oc hoc)
        rw [ho] at h1; exact Option.some.inj h1
      subst eo
      exact ⟨more, ⟨o, ws, keepO c o hcne hoc, rr⟩, by rw [keepP]; exact ht⟩
end Mine

set_option maxRecDepth 100000
set_option autoImplicit false
set_option linter.unusedVariables false
namespace Mine
open PySem PySem.W PySem.Calls PyProof.Rows PySem.Spec
section
variable {p : Program} {loose : List Str} {mean : ExcName → Option Value} {mg mb : Str → Option Value} {h : Heap} {prog : Program} {w : World}
/-- a def with its code and table -/
theorem tab_of (T : Top p loose mean mg mb h) {d : DefRec} (hd : d ∈ recsOf p) : ∃ f c P pm doc, mg d.name = some (.ref f) ∧ Wd.Gl ⟨prog, w, h⟩ d.name (.ref f) ∧ Wd.Fun ⟨prog, w, h⟩ f (fdOf d pm (.ref c) doc) ∧ Tab h c P := by
  obtain ⟨a, o, pm, code, doc, h1, h2, h3, h4⟩ := T.fn d hd
  obtain ⟨a', o', fd, c, P, m1, g1, d1, cc, ic, tt⟩ := T.tab d hd
  rw [h1] at m1
  have ea : a = a' := Value.ref.inj (Option.some.inj m1)
  subst ea
  rw [h2] at g1
  have eo : o = o' := Option.some.inj g1
  subst eo
  rw [h3] at d1
  have ef : docDef d.name d.params d.body d.scope pm code doc = fd := Data.func.inj d1
  have ec : code = .ref c := by rw [← ef] at cc; exact cc
  subst ec
  exact ⟨a, c, P, pm, doc, h1, .inl ⟨mg, T.g, h1⟩, ⟨⟨o, h2, h3⟩, T.nolimit, h4⟩, ic, tt, T.nolimit, let ⟨bm, ob, B⟩ := bmod_of_top T; ⟨mg, bm, ob, B⟩⟩
theorem end_tab {c : ClaimW} {cl : Str → Option Addr} {args : List WData} {s₁ s' : Shared} {cc P : Addr} (hr : ∀ cls, c.raises args cls = false) (hp : c.post args (.bool true) args = true) (hg : s₁.gens = #[]) (T : Tab s₁.heap cc P) (m : Mo s₁ s')
    (k : ∀ b o, b ≠ P → s₁.heap.get? b = some o → s'.heap.get? b = some o) (t : ∃ more, s'.heap.TableAt cc P (#[] ++ more)) : GoodWG c cl mean args s₁ (.ok (.ret (.bool true))) s' := by
  obtain ⟨more, t⟩ := t
  exact ⟨.inl ⟨_, .bool true, [], rfl, hr, .bool true, hp, fun _ => ⟨.nil, fun _ q => nomatch q⟩⟩, (OldK.refl _).step_table T.tab T.tab t k (Ne.symm T.pNe.1), m.os, m.gs (.of_eq hg)⟩
end
end Mine

open PySem PySem.W PyProof.Rows
set_option maxRecDepth 100000 in
set_option maxHeartbeats 8000000 in
theorem PySem.Challenge.cw_k20_0024_holds : PySem.Challenge.rw_k20_0024.Holds := by
  w_on
  o_law
  k_head
  (case hw => w_witness2)
  intro w s₀ s₁ mg mb G Y fa o pm cd doc dV kV ho hd hcd hD hmg hg args vals as hpre hlay hrd hwl hlo
  refine Ground.open G ?_
  intro T B D TE TW
  wrow_args hpre hlay hrd hwl hlo
  rename_i ns hs hlay0 hL hr hl2 w4 w3 l vs w0 hl ra w1 r0 hI hr' hc1 hc2
  obtain ⟨f1, e1, D1⟩ := Mine.df_of (prog := PySem.Challenge.pw_k20_0024) (w := w) T (d := Mine.fdef PySem.Challenge.pw_k20_0024 1) (List.mem_of_getElem? (i := 0) (by kernel_rfl))
  obtain ⟨f2, e2, D2⟩ := Mine.df_of (prog := PySem.Challenge.pw_k20_0024) (w := w) T (d := Mine.fdef PySem.Challenge.pw_k20_0024 2) (List.mem_of_getElem? (i := 1) (by kernel_rfl))
  obtain ⟨f3, e3, D3⟩ := Mine.df_of (prog := PySem.Challenge.pw_k20_0024) (w := w) T (d := Mine.fdef PySem.Challenge.pw_k20_0024 3) (List.mem_of_getElem? (i := 2) (by kernel_rfl))
  obtain ⟨f4, e4, D4⟩ := Mine.df_of (prog := PySem.Challenge.pw_k20_0024) (w := w) T (d := Mine.fdef PySem.Challenge.pw_k20_0024 4) (List.mem_of_getElem? (i := 3) (by kernel_rfl))
  obtain ⟨f5, e5, D5⟩ := Mine.df_of (prog := PySem.Challenge.pw_k20_0024) (w := w) T (d := Mine.fdef PySem.Challenge.pw_k20_0024 5) (List.mem_of_getElem? (i := 4) (by kernel_rfl))
  obtain ⟨f6, e6, D6⟩ := Mine.df_of (prog := PySem.Challenge.pw_k20_0024) (w := w) T (d := Mine.fdef PySem.Challenge.pw_k20_0024 6) (List.mem_of_getElem? (i := 5) (by kernel_rfl))
  obtain ⟨f7, e7, D7⟩ := Mine.df_of (prog := PySem.Challenge.pw_k20_0024) (w := w) T (d := Mine.fdef PySem.Challenge.pw_k20_0024 7) (List.mem_of_getElem? (i := 6) (by kernel_rfl))
  obtain ⟨f8, e8, D8⟩ := Mine.df_of (prog := PySem.Challenge.pw_k20_0024) (w := w) T (d := Mine.fdef PySem.Challenge.pw_k20_0024 8) (List.mem_of_getElem? (i := 7) (by kernel_rfl))
  obtain ⟨f9, e9, D9⟩ := Mine.df_of (prog := PySem.Challenge.pw_k20_0024) (w := w) T (d := Mine.fdef PySem.Challenge.pw_k20_0024 9) (List.mem_of_getElem? (i := 8) (by kernel_rfl))
  obtain ⟨f10, e10, D10⟩ := Mine.df_of (prog := PySem.Challenge.pw_k20_0024) (w := w) T (d := Mine.fdef PySem.Challenge.pw_k20_0024 10) (List.mem_of_getElem? (i := 9) (by kernel_rfl))
  obtain ⟨f11, e11, D11⟩ := Mine.df_of (prog := PySem.Challenge.pw_k20_0024) (w := w) T (d := Mine.fdef PySem.Challenge.pw_k20_0024 11) (List.mem_of_getElem? (i := 10) (by kernel_rfl))
  obtain ⟨f12, e12, D12⟩ := Mine.df_of (prog := PySem.Challenge.pw_k20_0024) (w := w) T (d := Mine.fdef PySem.Challenge.pw_k20_0024 12) (List.mem_of_getElem? (i := 11) (by kernel_rfl))
  obtain ⟨f13, e13, D13⟩ := Mine.df_of (prog := PySem.Challenge.pw_k20_0024) (w := w) T (d := Mine.fdef PySem.Challenge.pw_k20_0024 13) (List.mem_of_getElem? (i := 12) (by kernel_rfl))
  obtain ⟨fc, ec, Dc⟩ := Mine.df_of (prog := PySem.Challenge.pw_k20_0024) (w := w) T (d := Mine.fdef PySem.Challenge.pw_k20_0024 15) (List.mem_of_getElem? (i := 13) (by kernel_rfl))
  obtain ⟨fl, el, Dl⟩ := Mine.df_of (prog := PySem.Challenge.pw_k20_0024) (w := w) T (d := Mine.fdef PySem.Challenge.pw_k20_0024 17) (List.mem_of_getElem? (i := 15) (by kernel_rfl))
  obtain ⟨fk, ck, Pk, pmk, dck, ek, Gk, Fk, Tk⟩ := Mine.tab_of (prog := PySem.Challenge.pw_k20_0024) (w := w) T (d := Mine.fdef PySem.Challenge.pw_k20_0024 16) (List.mem_of_getElem? (i := 14) (by kernel_rfl))
  have efl : fl = fa := by
    have q := el.symm.trans hmg
    exact Value.ref.inj (Option.some.inj q)
  subst efl
  have Bi : Mine.Bi ⟨PySem.Challenge.pw_k20_0024, w, s₁.heap⟩ := ⟨Mine.gl_boot T (by decide +kernel) (by decide) (by decide +kernel) (by decide +kernel) (by decide +kernel) (by decide +kernel) (by decide +kernel),
    Mine.gl_boot T (by decide +kernel) (by decide) (by decide +kernel) (by decide +kernel) (by decide +kernel) (by decide +kernel) (by decide +kernel),
    Mine.gl_boot T (by decide +kernel) (by decide) (by decide +kernel) (by decide +kernel) (by decide +kernel) (by decide +kernel) (by decide +kernel),
    Mine.gl_boot T (by decide +kernel) (by decide) (by decide +kernel) (by decide +kernel) (by decide +kernel) (by decide +kernel) (by decide +kernel)⟩
  have Fs : Mine.Fs ⟨PySem.Challenge.pw_k20_0024, w, s₁.heap⟩ := ⟨Bi, ⟨_, D1⟩, ⟨_, D2⟩, ⟨_, D3⟩, ⟨_, D4⟩, ⟨_, D5⟩, ⟨_, D6⟩, ⟨_, D7⟩, ⟨_, D8⟩, ⟨_, D9⟩, ⟨_, D10⟩, ⟨_, D11⟩, ⟨_, D12⟩, ⟨_, D13⟩⟩
  have F : Mine.F24 ⟨PySem.Challenge.pw_k20_0024, w, s₁.heap⟩ fl fc fk ck Pk pmk dck := ⟨Fs, Dl, Dc, Gk, Fk, Tk,
    Mine.gl_boot T (by decide +kernel) (by decide) (by decide +kernel) (by decide +kernel) (by decide +kernel) (by decide +kernel) (by decide +kernel),
    Mine.gl_boot T (by decide +kernel) (by decide) (by decide +kernel) (by decide +kernel) (by decide +kernel) (by decide +kernel) (by decide +kernel),
    Mine.gl_boot T (by decide +kernel) (by decide) (by decide +kernel) (by decide +kernel) (by decide +kernel) (by decide +kernel) (by decide +kernel)⟩
  exact Mine.law24_run F ns (by omega) ⟨rfl, by decide, by decide⟩ (.refl _) r0 fun s' m k t => Mine.end_tab (fun _ => rfl) (postW_of rfl (w_eq_bool (w_res rfl) w_lit) rfl) hg Tk m k t
