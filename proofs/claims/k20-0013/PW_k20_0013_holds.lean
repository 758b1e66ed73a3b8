import PyProof.Rows.All
import Wide.All
import OpenK.AllK
import Wide.FinOn
import Lean
import PySem.Challenge.RW_k20_0013
set_option Elab.async false
set_option maxRecDepth 100000
set_option autoImplicit false
set_option linter.unusedVariables false
namespace Mine
open PySem PySem.Calls PyProof.Rows PySem.Spec

/-! ## heaps -/
def Kp (h h' : Heap) : Prop := ∀ b o, h.get? b = some o → h'.get? b = some o
theorem Kp.refl (h : Heap) : Kp h h := fun _ _ e => e
theorem Kp.trans {a b c : Heap} (x : Kp a b) (y : Kp b c) : Kp a c := fun p o e => y p o (x p o e)
theorem Kp.push (h : Heap) (o : Obj) : Kp h (h.push o) := fun _ _ e => Heap.get?_push_of_some _ e
theorem get_none_of_size (h : Heap) : h.get? h.objs.size = none := by
  cases e : h.get? h.objs.size with
  | none => rfl
  | some o => exact absurd (Heap.lt_size e) (Nat.lt_irrefl _)
theorem Kp.none {h h' : Heap} {a : Addr} (k : Kp h h') (e : h'.get? a = none) : h.get? a = none := by
  cases q : h.get? a with
  | none => rfl
  | some o => rw [k a o q] at e; cases e

/-- the same but for what was made anew, tokens and finished generators -/
structure Mv (s s' : Shared) : Prop where
  kp : Kp s.heap s'.heap
  os : s'.os = s.os
  gs : AllBare s.gens → AllBare s'.gens
theorem Mv.refl (s : Shared) : Mv s s := ⟨.refl _, rfl, id⟩
theorem Mv.trans {a b c : Shared} (x : Mv a b) (y : Mv b c) : Mv a c := ⟨x.kp.trans y.kp, y.os.trans x.os, fun g => y.gs (x.gs g)⟩
theorem Mv.of {s : Shared} {h' : Heap} {tk : Nat} (k : Kp s.heap h') : Mv s { s with heap := h', toks := tk } := ⟨k, rfl, id⟩
theorem Mv.tok {s : Shared} {tk : Nat} : Mv s { s with toks := tk } := ⟨.refl _, rfl, id⟩
theorem Mv.new {s : Shared} {o : Obj} : Mv s { s with heap := s.heap.push o } := ⟨.push _ _, rfl, id⟩
theorem Mv.heap {s : Shared} {h' : Heap} (k : Kp s.heap h') : Mv s { s with heap := h' } := ⟨k, rfl, id⟩
structure Mo (s s' : Shared) : Prop where
  os : s'.os = s.os
  gs : AllBare s.gens → AllBare s'.gens
theorem Mo.refl (s : Shared) : Mo s s := ⟨rfl, id⟩
theorem Mo.trans {a b c : Shared} (x : Mo a b) (y : Mo b c) : Mo a c := ⟨y.os.trans x.os, fun g => y.gs (x.gs g)⟩
theorem Mo.of {s : Shared} {h' : Heap} {tk : Nat} : Mo s { s with heap := h', toks := tk } := ⟨rfl, id⟩
theorem Mo.heap {s : Shared} {h' : Heap} : Mo s { s with heap := h' } := ⟨rfl, id⟩
theorem Mv.mo {s s' : Shared} (x : Mv s s') : Mo s s' := ⟨x.os, x.gs⟩
theorem Mo.mv {s s' : Shared} (x : Mo s s') (k : Kp s.heap s'.heap) : Mv s s' := ⟨k, x.os, x.gs⟩
/-- v reads as d in h, and touches no list of O -/
def Rp (O : Addr → Prop) (h : Heap) (v : Value) (d : PyData) : Prop := d.canLay0 = true ∧ ∃ as, Reads h v d as ∧ ∀ a ∈ as, ¬ O a
def RpAll (O : Addr → Prop) (h : Heap) (vs : List Value) (ds : List PyData) : Prop := PyData.canLayAll0 ds = true ∧ ∃ as, ReadsAll h vs ds as ∧ ∀ a ∈ as, ¬ O a
theorem canAll_cons {d : PyData} {ds : List PyData} : PyData.canLayAll0 (d :: ds) = true ↔ d.canLay0 = true ∧ PyData.canLayAll0 ds = true := by simp [PyData.canLayAll0]
section
variable {O O' : Addr → Prop} {h h' : Heap} {v : Value} {d : PyData} {vs ws : List Value} {ds es : List PyData}
theorem Rp.keeps (r : Rp O h v d) (k : Kp h h') : Rp O h' v d := let ⟨c, as, r, a⟩ := r; ⟨c, as, Reads.keeps k r, a⟩
theorem RpAll.keeps (r : RpAll O h vs ds) (k : Kp h h') : RpAll O h' vs ds := let ⟨c, as, r, a⟩ := r; ⟨c, as, ReadsAll.keeps k r, a⟩
theorem Rp.weak (r : Rp O h v d) (k : ∀ a, O' a → O a) : Rp O' h v d := let ⟨c, as, r, a⟩ := r; ⟨c, as, r, fun x hx q => a x hx (k x q)⟩
theorem RpAll.weak (r : RpAll O h vs ds) (k : ∀ a, O' a → O a) : RpAll O' h vs ds := let ⟨c, as, r, a⟩ := r; ⟨c, as, r, fun x hx q => a x hx (k x q)⟩
theorem RpAll.nil : RpAll O h [] [] := ⟨rfl, [], .nil, fun _ q => nomatch q⟩
theorem RpAll.cons (x : Rp O h v d) (r : RpAll O h vs ds) : RpAll O h (v :: vs) (d :: ds) := by
  obtain ⟨c, as, x, p⟩ := x
  obtain ⟨c', bs, r, q⟩ := r
  exact ⟨canAll_cons.mpr ⟨c, c'⟩, _, .cons x r, fun a ha => (List.mem_append.mp ha).elim (p a) (q a)⟩
theorem RpAll.head (r : RpAll O h (v :: vs) (d :: ds)) : Rp O h v d := by
  obtain ⟨c, as, r, p⟩ := r
  cases r with
  | cons r1 r2 => exact ⟨(canAll_cons.mp c).1, _, r1, fun a ha => p a (List.mem_append.mpr (.inl ha))⟩
theorem RpAll.tail (r : RpAll O h (v :: vs) (d :: ds)) : RpAll O h vs ds := by
  obtain ⟨c, as, r, p⟩ := r
  cases r with
  | cons r1 r2 => exact ⟨(canAll_cons.mp c).2, _, r2, fun a ha => p a (List.mem_append.mpr (.inr ha))⟩
theorem RpAll.length : ∀ {vs : List Value} {ds : List PyData}, RpAll O h vs ds → vs.length = ds.length
  | [], [], _ => rfl
  | [], _ :: _, ⟨_, _, r, _⟩ => by cases r
  | _ :: _, [], ⟨_, _, r, _⟩ => by cases r
  | _ :: _, _ :: _, r => by rw [List.length_cons, List.length_cons, RpAll.length r.tail]
theorem RpAll.get : ∀ {vs : List Value} {ds : List PyData}, RpAll O h vs ds → ∀ {i : Nat} {d : PyData}, ds[i]? = some d → ∃ v, vs[i]? = some v ∧ Rp O h v d
  | [], [], _, _, _, e => by simp at e
  | [], _ :: _, ⟨_, _, r, _⟩, _, _, _ => by cases r
  | _ :: _, [], ⟨_, _, r, _⟩, _, _, _ => by cases r
  | v :: _, d :: _, r, 0, _, e => by simp at e; subst e; exact ⟨v, rfl, r.head⟩
  | _ :: vs, _ :: ds, r, i + 1, _, e => by simpa using r.tail.get (by simpa using e)
theorem RpAll.append : ∀ {vs ws : List Value} {ds es : List PyData}, RpAll O h vs ds → RpAll O h ws es → RpAll O h (vs ++ ws) (ds ++ es)
  | [], _, [], _, _, k => k
  | [], _, _ :: _, _, ⟨_, _, r, _⟩, _ => by cases r
  | _ :: _, _, [], _, ⟨_, _, r, _⟩, _ => by cases r
  | _ :: _, _, _ :: _, _, r, k => .cons r.head (r.tail.append k)
theorem RpAll.drop : ∀ {vs : List Value} {ds : List PyData} (n : Nat), RpAll O h vs ds → RpAll O h (vs.drop n) (ds.drop n)
  | _, _, 0, r => r
  | [], [], _ + 1, r => r
  | [], _ :: _, _ + 1, ⟨_, _, r, _⟩ => by cases r
  | _ :: _, [], _ + 1, ⟨_, _, r, _⟩ => by cases r
  | _ :: _, _ :: _, n + 1, r => RpAll.drop n r.tail
theorem RpAll.set : ∀ {vs : List Value} {ds : List PyData} {v : Value} {d : PyData} (n : Nat), RpAll O h vs ds → Rp O h v d → RpAll O h (vs.set n v) (ds.set n d)
  | [], [], _, _, _, r, _ => r
  | [], _ :: _, _, _, _, ⟨_, _, r, _⟩, _ => by cases r
  | _ :: _, [], _, _, _, ⟨_, _, r, _⟩, _ => by cases r
  | _ :: _, _ :: _, _, _, 0, r, k => .cons k r.tail
  | _ :: _, _ :: _, _, _, n + 1, r, k => .cons r.head (r.tail.set n k)
theorem RpAll.replicate (r : Rp O h v d) : ∀ n, RpAll O h (List.replicate n v) (List.replicate n d)
  | 0 => .nil
  | n + 1 => by rw [List.replicate_succ, List.replicate_succ]; exact .cons r (RpAll.replicate r n)
theorem Rp.int (i : Int) (t : Tok) : Rp O h (.int i t) (.int i) := ⟨rfl, [], .int i t, fun _ q => nomatch q⟩
theorem Rp.bool (b : Bool) : Rp O h (.bool b) (.bool b) := ⟨rfl, [], .bool b, fun _ q => nomatch q⟩
theorem Rp.none : Rp O h .none .none := ⟨rfl, [], .none, fun _ q => nomatch q⟩
theorem Rp.int_inv {i : Int} (r : Rp O h v (.int i)) : ∃ t, v = .int i t := by obtain ⟨_, _, r, _⟩ := r; cases r; exact ⟨_, rfl⟩
theorem Rp.bool_inv {b : Bool} (r : Rp O h v (.bool b)) : v = .bool b := by obtain ⟨_, _, r, _⟩ := r; cases r; rfl
theorem Rp.none_inv (r : Rp O h v .none) : v = .none := by obtain ⟨_, _, r, _⟩ := r; cases r; rfl
theorem Rp.list_inv (r : Rp O h v (.list ds)) : ∃ a vs, v = .ref a ∧ h.IsList a vs.toArray ∧ RpAll O h vs ds ∧ ¬ O a := by
  obtain ⟨c, as, r, p⟩ := r
  cases r with
  | @list a o vs n xs as h1 h2 h3 h4 => exact ⟨a, vs.toList, rfl, ⟨o, h1, h2, n, by simpa using h3⟩, ⟨c, _, h4, fun b hb => p b (List.mem_cons_of_mem _ hb)⟩, p a List.mem_cons_self⟩
theorem Rp.tuple_inv (r : Rp O h v (.tuple ds)) : ∃ a vs, v = .ref a ∧ IsTup h a vs.toArray ∧ RpAll O h vs ds := by
  obtain ⟨c, as, r, p⟩ := r
  cases r with
  | @tuple a o vs n xs as h1 h2 h3 h4 => exact ⟨a, vs.toList, rfl, ⟨o, h1, h2, n, by simpa using h3⟩, ⟨c, _, h4, p⟩⟩
theorem Rp.of_list {a : Addr} (x : h.IsList a vs.toArray) (r : RpAll O h vs ds) (ha : ¬ O a) : Rp O h (.ref a) (.list ds) := by
  obtain ⟨o, e, c, n, dd⟩ := x
  obtain ⟨cc, as, r, p⟩ := r
  exact ⟨cc, a :: as, .list e c dd (by simpa using r), fun b hb => by
    rcases List.mem_cons.mp hb with rfl | hb
    · exact ha
    · exact p b hb⟩
theorem Rp.of_tuple {a : Addr} (x : IsTup h a vs.toArray) (r : RpAll O h vs ds) : Rp O h (.ref a) (.tuple ds) := by
  obtain ⟨o, e, c, n, dd⟩ := x
  obtain ⟨cc, as, r, p⟩ := r
  exact ⟨cc, as, .tuple e c dd (by simpa using r), p⟩
theorem RpAll.ints : ∀ {vs : List Value} {is : List Int}, RpAll O h vs (is.map .int) → RpAll O' h' vs (is.map .int)
  | [], [], _ => .nil
  | [], _ :: _, ⟨_, _, r, _⟩ => by cases r
  | _ :: _, [], ⟨_, _, r, _⟩ => by cases r
  | v :: vs, i :: is, r => by
    obtain ⟨t, rfl⟩ := Rp.int_inv (RpAll.head r)
    exact .cons (.int i t) (RpAll.ints (RpAll.tail r))
/-- an address that is no list of the reading may be changed -/
theorem reads_but {a : Addr} {oa : Obj} (ha : h.get? a = some oa) (hc : ∀ vs n, oa.data = .seq vs n → oa.cls ≠ .type "tuple") (k : ∀ b o, b ≠ a → h.get? b = some o → h'.get? b = some o) :
    (∀ (v : Value) (d : PyData) (as : List Addr), Reads h v d as → a ∉ as → Reads h' v d as) := by
  intro v d as r
  refine Reads.rec (motive_1 := fun v d as _ => a ∉ as → Reads h' v d as) (motive_2 := fun vs ds as _ => a ∉ as → ReadsAll h' vs ds as)
    (fun _ => .none) (fun b _ => .bool b) (fun i t _ => .int i t) (fun x t _ => .str x t) ?_ ?_ ?_ (fun _ => .nil) ?_ r
  · intro b o vs n xs as h1 h2 h3 _ ih hm
    exact .list (k b o (fun q => hm (by rw [q]; exact List.mem_cons_self)) h1) h2 h3 (ih fun q => hm (List.mem_cons_of_mem _ q))
  · intro b o vs n xs as h1 h2 h3 _ ih hm
    exact .tuple (k b o (fun q => by subst q; rw [ha] at h1; cases h1; exact hc _ _ h3 h2) h1) h2 h3 (ih hm)
  · intro b o es n kvs as bs h1 h2 h3 _ _ ih1 ih2 hm
    exact .dict (k b o (fun q => hm (by rw [q]; simp)) h1) h2 h3 (ih1 fun q => hm (by simp [q])) (ih2 fun q => hm (by simp [q]))
  · intro v vs d ds as bs _ _ ih1 ih2 hm
    exact .cons (ih1 fun q => hm (List.mem_append.mpr (.inl q))) (ih2 fun q => hm (List.mem_append.mpr (.inr q)))
theorem readsAll_but {a : Addr} {oa : Obj} (ha : h.get? a = some oa) (hc : ∀ vs n, oa.data = .seq vs n → oa.cls ≠ .type "tuple") (k : ∀ b o, b ≠ a → h.get? b = some o → h'.get? b = some o) :
    ∀ (vs : List Value) (ds : List PyData) (as : List Addr), ReadsAll h vs ds as → a ∉ as → ReadsAll h' vs ds as
  | _, _, _, .nil, _ => .nil
  | _, _, _, .cons r1 r2, hm => .cons (reads_but ha hc k _ _ _ r1 fun q => hm (List.mem_append.mpr (.inl q))) (readsAll_but ha hc k _ _ _ r2 fun q => hm (List.mem_append.mpr (.inr q)))
mutual
theorem reads_seq : ∀ (d : PyData) {v : Value} {as : List Addr}, d.canLay0 = true → Reads h v d as → ∀ b ∈ as, ∃ o vs n, h.get? b = some o ∧ o.data = .seq vs n
  | .none, _, _, _, r, b, hb => by cases r; cases hb
  | .bool _, _, _, _, r, b, hb => by cases r; cases hb
  | .int _, _, _, _, r, b, hb => by cases r; cases hb
  | .str _, _, _, _, r, b, hb => by cases r; cases hb
  | .list xs, _, _, c, r, b, hb => by
    cases r with
    | list h1 h2 h3 h4 =>
      rcases List.mem_cons.mp hb with rfl | hb
      · exact ⟨_, _, _, h1, h3⟩
      · exact readsAll_seq xs c h4 b hb
  | .tuple xs, _, _, c, r, b, hb => by
    cases r with
    | tuple h1 h2 h3 h4 => exact readsAll_seq xs c h4 b hb
  | .dict _, _, _, c, _, _, _ => by cases c
theorem readsAll_seq : ∀ (ds : List PyData) {vs : List Value} {as : List Addr}, PyData.canLayAll0 ds = true → ReadsAll h vs ds as → ∀ b ∈ as, ∃ o vs n, h.get? b = some o ∧ o.data = .seq vs n
  | [], _, _, _, r, b, hb => by cases r; cases hb
  | d :: ds, _, _, c, r, b, hb => by
    cases r with
    | cons r1 r2 =>
      rcases List.mem_append.mp hb with hb | hb
      · exact reads_seq d (canAll_cons.mp c).1 r1 b hb
      · exact readsAll_seq ds (canAll_cons.mp c).2 r2 b hb
end
/-- a change at an object that is no sequence -/
theorem Rp.butNs {a : Addr} {oa : Obj} (r : Rp O h v d) (ha : h.get? a = some oa) (hn : ∀ vs n, oa.data ≠ .seq vs n) (k : ∀ b o, b ≠ a → h.get? b = some o → h'.get? b = some o) : Rp O h' v d := by
  obtain ⟨c, as, r, p⟩ := r
  refine ⟨c, as, reads_but ha (fun vs n e => absurd e (hn vs n)) k _ _ _ r fun q => ?_, p⟩
  obtain ⟨o, vs, n, e, dd⟩ := reads_seq d c r a q
  rw [ha] at e; cases e
  exact hn _ _ dd
theorem RpAll.butNs {a : Addr} {oa : Obj} (r : RpAll O h vs ds) (ha : h.get? a = some oa) (hn : ∀ vs n, oa.data ≠ .seq vs n) (k : ∀ b o, b ≠ a → h.get? b = some o → h'.get? b = some o) : RpAll O h' vs ds := by
  obtain ⟨c, as, r, p⟩ := r
  refine ⟨c, as, readsAll_but ha (fun vs n e => absurd e (hn vs n)) k _ _ _ r fun q => ?_, p⟩
  obtain ⟨o, vs, n, e, dd⟩ := readsAll_seq ds c r a q
  rw [ha] at e; cases e
  exact hn _ _ dd
/-- a change at an owned list -/
theorem Rp.butOwn {a : Addr} {oa : Obj} (r : Rp O h v d) (ha : h.get? a = some oa) (hc : oa.cls = .type "list") (hO : O a) (k : ∀ b o, b ≠ a → h.get? b = some o → h'.get? b = some o) : Rp O h' v d := by
  obtain ⟨c, as, r, p⟩ := r
  exact ⟨c, as, reads_but ha (fun _ _ _ => by rw [hc]; decide) k _ _ _ r fun q => p a q hO, p⟩
theorem RpAll.butOwn {a : Addr} {oa : Obj} (r : RpAll O h vs ds) (ha : h.get? a = some oa) (hc : oa.cls = .type "list") (hO : O a) (k : ∀ b o, b ≠ a → h.get? b = some o → h'.get? b = some o) : RpAll O h' vs ds := by
  obtain ⟨c, as, r, p⟩ := r
  exact ⟨c, as, readsAll_but ha (fun _ _ _ => by rw [hc]; decide) k _ _ _ r fun q => p a q hO, p⟩
theorem Rp.reads (r : Rp O h v d) : d.canLay0 = true ∧ ∃ as, Reads h v d as := let ⟨c, as, r, _⟩ := r; ⟨c, as, r⟩
end

/-! ## stores -/
inductive Slot where
  | sh (d : PyData)
  | own (pl : Bool) (ds : List PyData)
abbrev Store := List (Str × Slot)

structure Wd where
  prog : Program
  w : World
  base : Heap

/-- the name's value -/
def Nm (env : Env) (m : Str → Option Value) (h : Heap) (x : Str) (v : Value) : Prop :=
  (env.kindOf x = some .local ∧ m x = some v) ∨ (env.kindOf x = some .cell ∧ ∃ c, env.cells.lookup x = some c ∧ h.IsCell c (some v))
theorem Nm.keeps {env : Env} {m : Str → Option Value} {h h' : Heap} {x : Str} {v : Value} (n : Nm env m h x v) (k : Kp h h') : Nm env m h' x v :=
  n.imp id fun ⟨a, c, b, d⟩ => ⟨a, c, b, d.keeps k⟩

structure Rd (W : Wd) (env : Env) (ρ : Store) (O : Addr → Prop) (m : Str → Option Value) (h : Heap) : Prop where
  fn : env.scope.kind = .function
  gl : env.globals = mainGlobals
  bi : env.builtins = builtinsNs
  ns : h.Ns env.locals m
  at_ : ∀ x d, ρ.lookup x = some (.sh d) → ∃ v, Nm env m h x v ∧ Rp O h v d
  al : ∀ a, O a → ∃ o, h.get? a = some o
  gr : Kp W.base h
section
variable {W : Wd} {A : Around} {env : Env} {ρ : Store} {O : Addr → Prop} {m : Str → Option Value} {h h' : Heap}
theorem Rd.keeps (R : Rd W env ρ O m h) (k : Kp h h') : Rd W env ρ O m h' where
  fn := R.fn
  gl := R.gl
  bi := R.bi
  ns := R.ns.keeps k
  at_ := fun x d e => let ⟨v, n, r⟩ := R.at_ x d e; ⟨v, n.keeps k, r.keeps k⟩
  al := fun a q => let ⟨o, e⟩ := R.al a q; ⟨o, k a o e⟩
  gr := R.gr.trans k
theorem Rd.fresh (R : Rd W env ρ O m h) {a : Addr} (e : h.get? a = none) : ¬ O a := fun q => by
  obtain ⟨o, e'⟩ := R.al a q
  rw [e] at e'; cases e'
end

/-- room for n more frames -/
structure Rm (n : Nat) (A : Around) : Prop where
  hh : A.handled = none
  dp : A.depth + n < recursionLimit
  un : A.units + 8 * n + 100 < cLine
theorem Rm.le {n k : Nat} {A : Around} (x : Rm n A) (hk : k ≤ n) : Rm k A := ⟨x.hh, by have := x.dp; omega, by have := x.un; omega⟩
theorem Rm.deeper {n : Nat} {A : Around} {env : Env} (x : Rm (n + 1) A) : Rm n (A.deeper env) :=
  ⟨by have := x.hh; exact this, by have := x.dp; show A.depth + 1 + n < _; omega, by have := x.un; show A.units + 3 + 8 * n + 100 < _; omega⟩

/-! ## expressions -/
def EV (W : Wd) (A : Around) (env : Env) (ρ : Store) (e : Expr) (P : PyData → Prop) : Prop :=
  ∀ (s : Shared) (O : Addr → Prop) (m : Str → Option Value), Rd W env ρ O m s.heap → ∀ (Q E : Value → Shared → Prop),
    (∀ v d s', Mv s s' → Rp O s'.heap v d → P d → Q v s') → wpAny (model W.prog W.w) A (eval e env) Q E s
/-- a fresh list -/
def EVo (W : Wd) (A : Around) (env : Env) (ρ : Store) (e : Expr) (P : List PyData → Prop) : Prop :=
  ∀ (s : Shared) (O : Addr → Prop) (m : Str → Option Value), Rd W env ρ O m s.heap → ∀ (Q E : Value → Shared → Prop),
    (∀ D vs ds s', s.heap.get? D = none → Mv s s' → s'.heap.PlainList D vs.toArray → RpAll (fun a => O a ∨ a = D) s'.heap vs ds → P ds → Q (.ref D) s') → wpAny (model W.prog W.w) A (eval e env) Q E s
/-- several, in order -/
def EVs (W : Wd) (A : Around) (env : Env) (ρ : Store) (es : List Expr) (P : List PyData → Prop) : Prop :=
  ∀ (s : Shared) (O : Addr → Prop) (m : Str → Option Value), Rd W env ρ O m s.heap → ∀ (pos : Pos) (Q : List Value → Shared → Prop) (E : Value → Shared → Prop),
    (∀ vs ds s', Mv s s' → RpAll O s'.heap vs ds → P ds → Q vs s') → wpAny (model W.prog W.w) A (spliced (backTo pos (starEach es env))) Q E s
/-- a test -/
def TV (W : Wd) (A : Around) (env : Env) (ρ : Store) (e : Expr) (P : Bool → Prop) : Prop :=
  ∀ (s : Shared) (O : Addr → Prop) (m : Str → Option Value), Rd W env ρ O m s.heap → ∀ (Q : Bool → Shared → Prop) (E : Value → Shared → Prop),
    (∀ b s', Mv s s' → P b → Q b s') → wpAny (model W.prog W.w) A (isTrue e env (eval e env)) Q E s
/-- a binary operation on data -/
def BO (W : Wd) (A : Around) (op : Operator) (a b : PyData) (P : PyData → Prop) : Prop :=
  ∀ (s : Shared) (O : Addr → Prop) (va vb : Value), Rp O s.heap va a → Rp O s.heap vb b → (∀ a, O a → ∃ o, s.heap.get? a = some o) → ∀ (Q E : Value → Shared → Prop),
    (∀ v d s', Mv s s' → Rp O s'.heap v d → P d → Q v s') → wpAny (model W.prog W.w) A (binaryOp op va vb) Q E s
/-- a comparison -/
def CO (W : Wd) (A : Around) (op : CmpOp) (a b : PyData) (P : Bool → Prop) : Prop :=
  ∀ (s : Shared) (O : Addr → Prop) (va vb : Value), Rp O s.heap va a → Rp O s.heap vb b → ∀ (Q E : Value → Shared → Prop),
    (∀ c, P c → Q (.bool c) s) → wpAny (model W.prog W.w) A (compareOp op va vb) Q E s

section
variable {W : Wd} {A : Around} {env : Env} {ρ : Store} {P P' : PyData → Prop}
theorem EV.mono {e : Expr} (x : EV W A env ρ e P) (k : ∀ d, P d → P' d) : EV W A env ρ e P' :=
  fun s O m R Q E f => x s O m R Q E fun v d s' a b c => f v d s' a b (k d c)
theorem EVo.mono {e : Expr} {P P' : List PyData → Prop} (x : EVo W A env ρ e P) (k : ∀ d, P d → P' d) : EVo W A env ρ e P' :=
  fun s O m R Q E f => x s O m R Q E fun D vs ds s' a b c d p => f D vs ds s' a b c d (k ds p)
theorem EVs.mono {es : List Expr} {P P' : List PyData → Prop} (x : EVs W A env ρ es P) (k : ∀ d, P d → P' d) : EVs W A env ρ es P' :=
  fun s O m R pos Q E f => x s O m R pos Q E fun v d s' a b c => f v d s' a b (k d c)
theorem TV.mono {e : Expr} {P P' : Bool → Prop} (x : TV W A env ρ e P) (k : ∀ d, P d → P' d) : TV W A env ρ e P' :=
  fun s O m R Q E f => x s O m R Q E fun b s' a c => f b s' a (k b c)
theorem EV.of_own {e : Expr} (x : EVo W A env ρ e fun ds => P (.list ds)) : EV W A env ρ e P :=
  fun s O m R Q E f => x s O m R Q E fun D vs ds s' hD k hl r p =>
    f _ (.list ds) s' k (Rp.of_list hl.isList (r.weak fun a q => .inl q) (R.fresh hD)) p

theorem ev_int {i : Int} {k : Nat} {pos : Pos} (p : P (.int i)) : EV W A env ρ (.Constant (.int i) k pos) P :=
  fun s _ _ _ _ _ f => wpAny_Constant_int (f _ _ _ .tok (.int i _) p)
theorem ev_bool {b : Bool} {k : Nat} {pos : Pos} (p : P (.bool b)) : EV W A env ρ (.Constant (.bool b) k pos) P :=
  fun s _ _ _ _ _ f => wpAny_Constant_bool (f _ _ _ (.refl _) (.bool b) p)
theorem ev_none {k : Nat} {pos : Pos} (p : P .none) : EV W A env ρ (.Constant .none k pos) P :=
  fun s _ _ _ _ _ f => wpAny_Constant_none (f _ _ _ (.refl _) .none p)
theorem ev_name {x : Str} {pos : Pos} {d : PyData} (e : ρ.lookup x = some (.sh d)) (p : P d) (hd : (x == ("__debug__" : Str)) = false := by decide) : EV W A env ρ (.Name x pos) P := by
  intro s O m R Q E f
  obtain ⟨v, n, r⟩ := R.at_ x d e
  have q := f v d s (.refl _) r p
  rcases n with ⟨a, b⟩ | ⟨a, c, b, g⟩
  · exact wpAny_Name (wpAny_loadName_local R.fn a R.ns b q) hd
  · exact wpAny_Name (wpAny_loadName_cell R.fn a b g q) hd
theorem ev_bin {l r : Expr} {op : Operator} {pos : Pos} (x : EV W A env ρ l fun a => EV W A env ρ r fun b => BO W A op a b P) : EV W A env ρ (.BinOp l op r pos) P := by
  intro s O m R Q E f
  refine wpAny_BinOp (x s O m R _ _ fun va a s₁ k₁ ra y => ?_)
  refine y _ O m (R.keeps k₁.kp) _ _ fun vb b s₂ k₂ rb z => ?_
  exact z _ O va vb (ra.keeps k₂.kp) rb (fun a q => ((R.keeps k₁.kp).keeps k₂.kp).al a q) _ _ fun v d s₃ k₃ rv p => f v d s₃ ((k₁.trans k₂).trans k₃) rv p
end
end Mine

set_option maxRecDepth 100000
set_option autoImplicit false
set_option linter.unusedVariables false
namespace Mine
open PySem PySem.Calls PyProof.Rows PySem.Spec
section
variable {W : Wd} {A : Around} {env : Env} {ρ : Store} {P P' : PyData → Prop}

/-! ### operations on ints -/
theorem bo_add {i j : Int} (p : P (.int (i + j))) : BO W A .Add (.int i) (.int j) P := by
  intro s O va vb ra rb al Q E f
  obtain ⟨t, rfl⟩ := ra.int_inv
  obtain ⟨u, rfl⟩ := rb.int_inv
  exact add_int (f _ _ _ .tok (.int _ _) p)
theorem bo_sub {i j : Int} (p : P (.int (i - j))) : BO W A .Sub (.int i) (.int j) P := by
  intro s O va vb ra rb al Q E f
  obtain ⟨t, rfl⟩ := ra.int_inv
  obtain ⟨u, rfl⟩ := rb.int_inv
  exact sub_int (f _ _ _ .tok (.int _ _) p)
theorem bo_mul {i j : Int} (hm : IntMulOk i j) (p : P (.int (i * j))) : BO W A .Mult (.int i) (.int j) P := by
  intro s O va vb ra rb al Q E f
  obtain ⟨t, rfl⟩ := ra.int_inv
  obtain ⟨u, rfl⟩ := rb.int_inv
  exact mul_int (f _ _ _ .tok (.int _ _) p) hm
theorem bo_mod {i j : Int} (hj : j ≠ 0) (p : P (.int (i.fmod j))) : BO W A .Mod (.int i) (.int j) P := by
  intro s O va vb ra rb al Q E f
  obtain ⟨t, rfl⟩ := ra.int_inv
  obtain ⟨u, rfl⟩ := rb.int_inv
  exact mod_int hj (f _ _ _ .tok (.int _ _) p)
theorem bo_div {i j : Int} (hj : j ≠ 0) (hs : j.natAbs.log2 < 9000) (p : P (.int (i.fdiv j))) : BO W A .FloorDiv (.int i) (.int j) P := by
  intro s O va vb ra rb al Q E f
  obtain ⟨t, rfl⟩ := ra.int_inv
  obtain ⟨u, rfl⟩ := rb.int_inv
  exact floordiv_int hj (f _ _ _ .tok (.int _ _) p) (.inl (PyProof.noPylong_of_log2 hs))
theorem bo_pow {i j : Int} (hj : 0 ≤ j) (hj2 : j ≤ 1000000) (hi : i.natAbs < 2 ^ 64) (p : P (.int (i ^ j.toNat))) : BO W A .Pow (.int i) (.int j) P := by
  intro s O va vb ra rb al Q E f
  obtain ⟨t, rfl⟩ := ra.int_inv
  obtain ⟨u, rfl⟩ := rb.int_inv
  exact pow_int_small hj hj2 hi (f _ _ _ .tok (.int _ _) p)
theorem ev_neg {x : Expr} {pos : Pos} (h : EV W A env ρ x fun a => match a with | .int i => P (.int (-i)) | _ => False) : EV W A env ρ (.UnaryOp .USub x pos) P := by
  intro s O m R Q E f
  refine wpAny_UnaryOp (h s O m R _ _ fun va a s₁ k₁ ra y => ?_)
  cases a <;> try exact y.elim
  obtain ⟨t, rfl⟩ := ra.int_inv
  exact neg_int (f _ _ _ (k₁.trans .tok) (.int _ _) y)
/-! ### comparisons -/
theorem co_lt {i j : Int} {P : Bool → Prop} (p : P (decide (i < j))) : CO W A .Lt (.int i) (.int j) P := by
  intro s O va vb ra rb Q E f
  obtain ⟨t, rfl⟩ := ra.int_inv
  obtain ⟨u, rfl⟩ := rb.int_inv
  exact lt_int (f _ p)
theorem co_gt {i j : Int} {P : Bool → Prop} (p : P (decide (j < i))) : CO W A .Gt (.int i) (.int j) P := by
  intro s O va vb ra rb Q E f
  obtain ⟨t, rfl⟩ := ra.int_inv
  obtain ⟨u, rfl⟩ := rb.int_inv
  exact gt_int (f _ p)
theorem co_ge {i j : Int} {P : Bool → Prop} (p : P (decide (j ≤ i))) : CO W A .GtE (.int i) (.int j) P := by
  intro s O va vb ra rb Q E f
  obtain ⟨t, rfl⟩ := ra.int_inv
  obtain ⟨u, rfl⟩ := rb.int_inv
  exact ge_int (f _ p)
theorem co_eqI {i j : Int} {P : Bool → Prop} (p : P (i == j)) : CO W A .Eq (.int i) (.int j) P := by
  intro s O va vb ra rb Q E f
  obtain ⟨t, rfl⟩ := ra.int_inv
  obtain ⟨u, rfl⟩ := rb.int_inv
  exact eq_int (f _ p)
theorem co_neI {i j : Int} {P : Bool → Prop} (p : P (i != j)) : CO W A .NotEq (.int i) (.int j) P := by
  intro s O va vb ra rb Q E f
  obtain ⟨t, rfl⟩ := ra.int_inv
  obtain ⟨u, rfl⟩ := rb.int_inv
  exact ne_int (f _ p)
theorem co_eq {n : Nat} {a b : PyData} {P : Bool → Prop} (rm : Rm n A) (hd : min a.depth b.depth ≤ 64) (p : P (PyData.eqv a b)) : CO W A .Eq a b P := by
  intro s O va vb ra rb Q E f
  obtain ⟨ca, as, ra⟩ := ra.reads
  obtain ⟨cb, bs, rb⟩ := rb.reads
  exact SeqAt.compareEq_reads ra rb ca cb (by have := rm.un; omega) (f _ p)
theorem co_ne {n : Nat} {a b : PyData} {P : Bool → Prop} (rm : Rm n A) (hd : min a.depth b.depth ≤ 64) (p : P (!PyData.eqv a b)) : CO W A .NotEq a b P := by
  intro s O va vb ra rb Q E f
  obtain ⟨ca, as, ra⟩ := ra.reads
  obtain ⟨cb, bs, rb⟩ := rb.reads
  exact SeqAt.compareNe_reads ra rb ca cb (by have := rm.un; omega) (f _ p)
theorem co_in {n : Nat} {d : PyData} {xs : List PyData} {P : Bool → Prop} (rm : Rm n A) (hd : d.depth ≤ 64) (p : P (xs.any fun y => PyData.eqv y d)) : CO W A .In d (.list xs) P := by
  intro s O va vb ra rb Q E f
  obtain ⟨ca, as, ra⟩ := ra.reads
  obtain ⟨cb, bs, rb⟩ := rb.reads
  exact SeqAt.in_list_reads rb ra cb ca (by have := rm.un; omega) (f _ p)
theorem co_notIn {n : Nat} {d : PyData} {xs : List PyData} {P : Bool → Prop} (rm : Rm n A) (hd : d.depth ≤ 64) (p : P (!xs.any fun y => PyData.eqv y d)) : CO W A .NotIn d (.list xs) P := by
  intro s O va vb ra rb Q E f
  obtain ⟨ca, as, ra⟩ := ra.reads
  obtain ⟨cb, bs, rb⟩ := rb.reads
  exact SeqAt.notIn_list_reads rb ra cb ca (by have := rm.un; omega) (f _ p)
theorem ev_cmp {l r : Expr} {op : CmpOp} {pos : Pos} (x : EV W A env ρ l fun a => EV W A env ρ r fun b => CO W A op a b fun c => P (.bool c))
    (hm : behindInMarks op r = false := by with_unfolding_all rfl) : EV W A env ρ (.Compare l [op] [r] pos) P := by
  intro s O m R Q E f
  refine wpAny_Compare1 (x s O m R _ _ fun va a s₁ k₁ ra y => ?_) hm
  refine y _ O m (R.keeps k₁.kp) _ _ fun vb b s₂ k₂ rb z => ?_
  exact z _ O va vb (ra.keeps k₂.kp) rb _ _ fun c p => f _ _ s₂ (k₁.trans k₂) (.bool c) p
theorem tv_cmp {l r : Expr} {op : CmpOp} {pos : Pos} {P : Bool → Prop} (x : EV W A env ρ l fun a => EV W A env ρ r fun b => CO W A op a b P)
    (hm : behindInMarks op r = false := by with_unfolding_all rfl) : TV W A env ρ (.Compare l [op] [r] pos) P := by
  intro s O m R Q E f
  refine wpAny_isTrue_Compare1 (x s O m R _ _ fun va a s₁ k₁ ra y => ?_) hm
  refine y _ O m (R.keeps k₁.kp) _ _ fun vb b s₂ k₂ rb z => ?_
  exact z _ O va vb (ra.keeps k₂.kp) rb _ _ fun c p => wpAny_truthy_bool (f _ s₂ (k₁.trans k₂) p)
theorem tv_not {x : Expr} {pos : Pos} {P : Bool → Prop} (h : TV W A env ρ x fun b => P (!b)) : TV W A env ρ (.UnaryOp .Not x pos) P := by
  intro s O m R Q E f
  exact wpAny_isTrue_Not (h s O m R _ _ fun b s₁ k₁ p => f _ s₁ k₁ p)
theorem tv_and {x y : Expr} {pos : Pos} {P : Bool → Prop} (h : TV W A env ρ x fun b => if b then TV W A env ρ y P else P false) : TV W A env ρ (.BoolOp .And [x, y] pos) P := by
  intro s O m R Q E f
  refine wpAny_isTrue_BoolOp (wpAny_allTrue_And_cons (h s O m R _ _ fun b s₁ k₁ p => ?_))
  cases b with
  | false => exact f _ s₁ k₁ p
  | true =>
    refine wpAny_allTrue_And_cons (p _ O m (R.keeps k₁.kp) _ _ fun c s₂ k₂ p => ?_)
    cases c with
    | false => exact f _ s₂ (k₁.trans k₂) p
    | true => exact wpAny_allTrue_And_nil (f _ s₂ (k₁.trans k₂) p)
theorem tv_or {x y : Expr} {pos : Pos} {P : Bool → Prop} (h : TV W A env ρ x fun b => if b then P true else TV W A env ρ y P) : TV W A env ρ (.BoolOp .Or [x, y] pos) P := by
  intro s O m R Q E f
  refine wpAny_isTrue_BoolOp (wpAny_allTrue_Or_cons (h s O m R _ _ fun b s₁ k₁ p => ?_))
  cases b with
  | true => exact f _ s₁ k₁ p
  | false =>
    refine wpAny_allTrue_Or_cons (p _ O m (R.keeps k₁.kp) _ _ fun c s₂ k₂ p => ?_)
    cases c with
    | true => exact f _ s₂ (k₁.trans k₂) p
    | false => exact wpAny_allTrue_Or_nil (f _ s₂ (k₁.trans k₂) p)
/-- a value that is a bool -/
theorem tv_val {e : Expr} {P : Bool → Prop} (h : EV W A env ρ e fun a => match a with | .bool b => P b | _ => False)
    (he : ∀ whole, isTrue e env whole = (do let v ← whole; standAt e.pos; holding [v] (truthy v)) := by intro _; rfl) : TV W A env ρ e P := by
  intro s O m R Q E f
  refine wpAny_isTrue_value (h s O m R _ _ fun va a s₁ k₁ ra y => ?_) (he _)
  cases a <;> try exact y.elim
  rw [ra.bool_inv]
  exact wpAny_truthy_bool (f _ s₁ k₁ y)
/-! ### sequences of expressions -/
theorem evs_nil {P : List PyData → Prop} (p : P []) : EVs W A env ρ [] P := fun s _ _ _ _ _ _ f => wpAny_items_nil (f [] [] s (.refl _) .nil p)
theorem evs_cons {e : Expr} {es : List Expr} {P : List PyData → Prop} (h : EV W A env ρ e fun d => EVs W A env ρ es fun ds => P (d :: ds))
    (he : starEach (e :: es) env = (false, eval e env) :: starEach es env := by rfl) : EVs W A env ρ (e :: es) P := by
  intro s O m R pos Q E f
  refine wpAny_items_cons (h s O m R _ _ fun v d s₁ k₁ r y => ?_) he
  exact y _ O m (R.keeps k₁.kp) pos _ _ fun vs ds s₂ k₂ rs p => f _ _ s₂ (k₁.trans k₂) (.cons (r.keeps k₂.kp) rs) p
theorem ev_tuple {es : List Expr} {k : Nat} {pos : Pos} (hn : es.length ≤ 100) (h : EVs W A env ρ es fun ds => ds.length ≤ 100 ∧ P (.tuple ds)) : EV W A env ρ (.Tuple es k pos) P := by
  intro s O m R Q E f
  refine wpAny_Tuple (h s O m R pos _ _ fun vs ds s₁ k₁ r p => ⟨?_, ?_⟩)
  · rw [r.length, sizeLine_eq]; have := p.1; omega
  · have k₂ := Kp.push s₁.heap { cls := .type "tuple", data := .seq vs.toArray }
    exact f _ _ _ (k₁.trans .new) (Rp.of_tuple ⟨_, Heap.get?_push_size _ rfl, rfl, _, rfl⟩ (r.keeps k₂)) p.2
theorem evo_list {es : List Expr} {pos : Pos} {P : List PyData → Prop} (h : EVs W A env ρ es fun ds => ds.length ≤ 100 ∧ P ds) : EVo W A env ρ (.List es pos) P := by
  intro s O m R Q E f
  refine wpAny_List (h s O m R pos _ _ fun vs ds s₁ k₁ r p => ⟨?_, ?_⟩)
  · rw [r.length, sizeLine_eq]; have := p.1; omega
  · have k₂ := Kp.push s₁.heap { cls := .type "list", data := .seq vs.toArray }
    refine f s₁.heap.objs.size vs ds _ (k₁.kp.none (get_none_of_size _)) (k₁.trans .new) ⟨_, Heap.get?_push_size _ rfl⟩ ?_ p.2
    obtain ⟨c, as, r, a⟩ := r
    refine ⟨c, as, ReadsAll.keeps k₂ r, fun b hb q => ?_⟩
    rcases q with q | q
    · exact a b hb q
    · subst q
      obtain ⟨o, _, _, e, _⟩ := readsAll_seq ds c r _ hb
      rw [get_none_of_size] at e; cases e
/-! ### items -/
theorem seqIndex_nat {k : Int} {n : Nat} (h0 : 0 ≤ k) (h1 : k.toNat < n) : seqIndex? k n = some k.toNat := by
  unfold seqIndex?
  have e : (if k < 0 then k + (n : Int) else k) = k := if_neg (by omega)
  simp only [e]
  rw [if_pos]
  simp only [Bool.and_eq_true, decide_eq_true_eq]
  omega
def ItemOf (a b : PyData) (P : PyData → Prop) : Prop := match a, b with
  | .list ds, .int k => 0 ≤ k ∧ k < 2 ^ 63 ∧ ∃ d, ds[k.toNat]? = some d ∧ P d
  | .tuple ds, .int k => 0 ≤ k ∧ k < 2 ^ 63 ∧ ∃ d, ds[k.toNat]? = some d ∧ P d
  | _, _ => False
theorem ev_sub {x i : Expr} {pos : Pos} (h : EV W A env ρ x fun a => EV W A env ρ i fun b => ItemOf a b P)
    (hs : ∀ (a : Addr) (k : Int) (u : Tok), subscripted i false (.ref a) (.int k u) = operate [.ref a, .int k u] (getItem (.ref a) (.int k u)) := by intros; with_unfolding_all rfl) : EV W A env ρ (.Subscript x i pos) P := by
  intro s O m R Q E f
  refine Subscript_ (h s O m R _ _ fun va a s₁ k₁ ra y => ?_)
  refine y _ O m (R.keeps k₁.kp) _ _ fun vb b s₂ k₂ rb z => ?_
  cases a <;> cases b <;> try exact z.elim
  · obtain ⟨z1, z2, d, z3, p⟩ := z
    obtain ⟨u, rfl⟩ := rb.int_inv
    obtain ⟨a, vs, rfl, hl, rs, _⟩ := (ra.keeps k₂.kp).list_inv
    obtain ⟨v, hv, rv⟩ := rs.get z3
    exact tail_any hl.typeIs slot_list_getitem.lookup (wpAny_getItem_list hl z1 z2 (by simpa using hv) (f v d s₂ (k₁.trans k₂) rv p)) (hs _ _ _)
  · obtain ⟨z1, z2, d, z3, p⟩ := z
    obtain ⟨u, rfl⟩ := rb.int_inv
    obtain ⟨a, vs, rfl, hl, rs⟩ := (ra.keeps k₂.kp).tuple_inv
    obtain ⟨v, hv, rv⟩ := rs.get z3
    rename_i xs k
    have hlt : k.toNat < vs.length := by
      have := List.getElem?_eq_some_iff.mp hv
      exact this.1
    exact item_tupleT (j := k.toNat) hl (by omega) z2 (seqIndex_nat z1 hlt) hv (f v d s₂ (k₁.trans k₂) rv p) (hs _ _ _)
end
end Mine

set_option maxRecDepth 100000
set_option autoImplicit false
set_option linter.unusedVariables false
namespace Mine
open PySem PySem.Calls PyProof.Rows PySem.Spec
theorem RpAll.addNew {O : Addr → Prop} {h h' : Heap} {vs : List Value} {ds : List PyData} {D : Addr} (r : RpAll O h vs ds) (e : h.get? D = none) (k : Kp h h') : RpAll (fun a => O a ∨ a = D) h' vs ds := by
  obtain ⟨c, as, r, a⟩ := r
  refine ⟨c, as, ReadsAll.keeps k r, fun b hb q => ?_⟩
  rcases q with q | q
  · exact a b hb q
  · subst q
    obtain ⟨o, _, _, e', _⟩ := readsAll_seq ds c r _ hb
    rw [e] at e'; cases e'
theorem Rp.addNew {O : Addr → Prop} {h h' : Heap} {v : Value} {d : PyData} {D : Addr} (r : Rp O h v d) (e : h.get? D = .none) (k : Kp h h') : Rp (fun a => O a ∨ a = D) h' v d := by
  obtain ⟨c, as, r, a⟩ := r
  refine ⟨c, as, Reads.keeps k r, fun b hb q => ?_⟩
  rcases q with q | q
  · exact a b hb q
  · subst q
    obtain ⟨o, _, _, e', _⟩ := reads_seq d c r _ hb
    rw [e] at e'; cases e'

section
variable {W : Wd} {A : Around} {env : Env} {ρ : Store} {P P' : PyData → Prop}
/-! ### slices, sums, products of lists -/
theorem evo_slice {x : Expr} {p pos : Pos} {P : List PyData → Prop} (h : EV W A env ρ x fun a => match a with | .list ds => ds.length ≤ 2 ^ 20 ∧ P ds | _ => False)
    (hs : ∀ (a b : Addr), subscripted (.Slice none none none p) false (.ref a) (.ref b) = operate [.ref b, .ref a] (getItem (.ref a) (.ref b)) := by intros; with_unfolding_all rfl) :
    EVo W A env ρ (.Subscript x (.Slice none none none p) pos) P := by
  intro s O m R Q E f
  refine Subscript_ (h s O m R _ _ fun va a s₁ k₁ ra y => ?_)
  cases a <;> try exact y.elim
  rename_i ds
  obtain ⟨a, vs, rfl, hl, rs, _⟩ := ra.list_inv
  refine wpAny_Slice ?_
  rw [evalPart_none]
  refine wpAny_pure (wpAny_pure (wpAny_pure ?_))
  refine tail_any (T := "list") (hl.push _).typeIs slot_list_getitem.lookup (wpAny_getItem_list_slice (hl.push _) (Heap.IsSliceOf.new ..) .none .none .none (by simp) ?_ (by rw [sizeLine_eq]; have := y.1; rw [List.size_toArray, rs.length]; omega)) (hs _ _)
  have k₂ := Kp.push s₁.heap { cls := .type "slice", data := .fields #[.none, .none, .none] }
  have k₃ := Kp.push (s₁.heap.push { cls := .type "slice", data := .fields #[.none, .none, .none] }) { cls := .type "list", data := .seq (slicePick vs.toArray none none none) }
  refine f _ vs ds _ ((k₁.kp.trans k₂).none (get_none_of_size _)) (k₁.trans ⟨k₂.trans k₃, rfl, id⟩) ⟨0, ?_⟩ ((rs.keeps k₂).addNew (get_none_of_size _) k₃) y.2
  rw [slicePick_all]
  exact Heap.get?_push_size _ rfl
theorem evo_sliceFrom {x lo : Expr} {p pos : Pos} {P : List PyData → Prop} (h : EV W A env ρ x fun a => EV W A env ρ lo fun b => match a, b with | .list ds, .int k => ds.length ≤ 2 ^ 20 ∧ 0 ≤ k ∧ k ≤ ds.length ∧ P (ds.drop k.toNat) | _, _ => False)
    (hs : ∀ (a b : Addr), subscripted (.Slice (some lo) none none p) false (.ref a) (.ref b) = operate [.ref b, .ref a] (getItem (.ref a) (.ref b)) := by intros; with_unfolding_all rfl) :
    EVo W A env ρ (.Subscript x (.Slice (some lo) none none p) pos) P := by
  intro s O m R Q E f
  refine Subscript_ (h s O m R _ _ fun va a s₁ k₁ ra y => ?_)
  refine wpAny_Slice ?_
  rw [evalPart_none, evalPart_some]
  refine y _ O m (R.keeps k₁.kp) _ _ fun vb b s₂ k₂ rb z => ?_
  clear y
  refine wpAny_pure (wpAny_pure ?_)
  cases a <;> cases b <;> try exact z.elim
  rename_i ds k
  obtain ⟨y1, y2, y3, y4⟩ := z
  obtain ⟨u, rfl⟩ := rb.int_inv
  obtain ⟨a, vs, rfl, hl, rs, _⟩ := (ra.keeps k₂.kp).list_inv
  refine tail_any (T := "list") (hl.push _).typeIs slot_list_getitem.lookup (wpAny_getItem_list_slice (hl.push _) (Heap.IsSliceOf.new ..) (.int _ _) .none .none (by simp) ?_ (by rw [sizeLine_eq]; rw [List.size_toArray, rs.length]; omega)) (hs _ _)
  have k₃ := Kp.push s₂.heap { cls := .type "slice", data := .fields #[.int k u, .none, .none] }
  have k₄ := Kp.push (s₂.heap.push { cls := .type "slice", data := .fields #[.int k u, .none, .none] }) { cls := .type "list", data := .seq (slicePick vs.toArray (some k) none none) }
  refine f _ (vs.drop k.toNat) (ds.drop k.toNat) _ (((k₁.trans k₂).kp.trans k₃).none (get_none_of_size _)) ((k₁.trans k₂).trans ⟨k₃.trans k₄, rfl, id⟩) ⟨0, ?_⟩ (((rs.drop k.toNat).keeps k₃).addNew (get_none_of_size _) k₄) y4
  have e2 : slicePick vs.toArray (some k) none none = (vs.drop k.toNat).toArray := by
    clear f k₄ k₃ rb y4
    obtain ⟨j, rfl⟩ := Int.eq_ofNat_of_zero_le y2
    have e3 := slicePick_from vs.toArray j (by rw [List.size_toArray, rs.length]; omega)
    simpa using e3
  rw [e2]
  exact Heap.get?_push_size _ rfl
theorem bo_addL {xs ys : List PyData} (hn : xs.length + ys.length ≤ 2 ^ 20) (p : P (.list (xs ++ ys))) : BO W A .Add (.list xs) (.list ys) P := by
  intro s O va vb ra rb al Q E f
  obtain ⟨a, vs, rfl, hl, rs, _⟩ := ra.list_inv
  obtain ⟨b, ws, rfl, hb, rt, _⟩ := rb.list_inv
  obtain ⟨⟨cls, dd, data, sl⟩, ho, hc, n, hd⟩ := id hl
  obtain ⟨⟨cls2, dd2, data2, sl2⟩, ho2, hc2, n2, hd2⟩ := id hb
  simp only at hc hd hc2 hd2
  subst hc hd hc2 hd2
  have hsz : vs.length + ws.length ≤ sizeLine := by rw [rs.length, rt.length, sizeLine_eq]; omega
  refine concat_meets ⟨_, ho, rfl⟩ ⟨_, ho2, rfl⟩ noFill_list_add seq_list_add PySem.F.slot_list_add PySem.F.entry_list_add (PySem.F.args_list_add_2 _ _) (list_addW a b vs.toArray ws.toArray n n2 dd dd2 sl sl2 (by simpa using hsz)) ⟨ho, ho2, ?_⟩
  have e : vs.toArray ++ ws.toArray = (vs ++ ws).toArray := by simp
  rw [e]
  have k₂ := Kp.push s.heap { cls := .type "list", data := .seq (vs ++ ws).toArray }
  exact f _ _ _ .new (Rp.of_list ⟨_, Heap.get?_push_size _ rfl, rfl, _, rfl⟩ ((rs.append rt).keeps k₂) fun q => by
    obtain ⟨o, e⟩ := al _ q
    rw [get_none_of_size] at e; cases e) p
end
end Mine

set_option maxRecDepth 100000
set_option autoImplicit false
set_option linter.unusedVariables false
namespace Mine
open PySem PySem.Calls PyProof.Rows PySem.Spec
/-! ### names of the module and of the builtins -/
def Wd.Gl (W : Wd) (x : Str) (v : Value) : Prop :=
  (∃ mg, W.base.Ns mainGlobals mg ∧ mg x = some v) ∨ (∃ mg mb, W.base.Ns mainGlobals mg ∧ mg x = none ∧ W.base.Ns builtinsNs mb ∧ mb x = some v)
structure Wd.Fun (W : Wd) (f : Addr) (fd : FuncData) : Prop where
  at_ : ∃ o, W.base.get? f = some o ∧ o.data = .func fd
  lim : W.base.NoLimit
  cd : W.base.CodeRec fd.code fd.qualname
section
variable {W : Wd} {A : Around} {env : Env} {ρ : Store} {P P' : PyData → Prop}
theorem gname {x : Str} {v : Value} {O : Addr → Prop} {m : Str → Option Value} {s : Shared} {pos : Pos} {Q E : Value → Shared → Prop} (R : Rd W env ρ O m s.heap) (g : W.Gl x v) (hx : env.kindOf x = some .globalImplicit)
    (q : Q v s) (hd : (x == ("__debug__" : Str)) = false) : wpAny (model W.prog W.w) A (eval (.Name x pos) env) Q E s := by
  refine Name_function_global R.fn hx ?_ hd
  rcases g with ⟨mg, g1, g2⟩ | ⟨mg, mb, g1, g2, g3, g4⟩
  · exact loadGlobal_global (by rw [R.gl]; exact g1.keeps R.gr) g2 q
  · exact loadGlobal_builtin (by rw [R.gl]; exact g1.keeps R.gr) g2 (by rw [R.bi]; exact g3.keeps R.gr) g4 q

/-- a call of a def, by its contract -/
def FN (W : Wd) (n : Nat) (f : Addr) (ds : List PyData) (P : PyData → Prop) : Prop :=
  ∀ (A : Around) (s : Shared) (O : Addr → Prop) (vs : List Value), Rm n A → Kp W.base s.heap → (∀ a, O a → ∃ o, s.heap.get? a = some o) → RpAll O s.heap vs ds → ∀ (Q E : Value → Shared → Prop),
    (∀ v d s', Mv s s' → Rp O s'.heap v d → P d → Q v s') → wpAny (model W.prog W.w) A (call (.ref f) vs) Q E s
def FNo (W : Wd) (n : Nat) (f : Addr) (ds : List PyData) (P : List PyData → Prop) : Prop :=
  ∀ (A : Around) (s : Shared) (O : Addr → Prop) (vs : List Value), Rm n A → Kp W.base s.heap → (∀ a, O a → ∃ o, s.heap.get? a = some o) → RpAll O s.heap vs ds → ∀ (Q E : Value → Shared → Prop),
    (∀ D vs ds s', s.heap.get? D = none → Mv s s' → s'.heap.PlainList D vs.toArray → RpAll (fun a => O a ∨ a = D) s'.heap vs ds → P ds → Q (.ref D) s') → wpAny (model W.prog W.w) A (call (.ref f) vs) Q E s
theorem FN.mono {n : Nat} {f : Addr} {ds : List PyData} (x : FN W n f ds P) (k : ∀ d, P d → P' d) : FN W n f ds P' :=
  fun A s O vs a b c d Q E q => x A s O vs a b c d Q E fun v d s' a b p => q v d s' a b (k d p)
theorem FN.up {n m : Nat} {f : Addr} {ds : List PyData} (x : FN W n f ds P) (k : n ≤ m) : FN W m f ds P :=
  fun A s O vs a b c d Q E q => x A s O vs (a.le k) b c d Q E q
theorem FNo.up {n m : Nat} {f : Addr} {ds : List PyData} {P : List PyData → Prop} (x : FNo W n f ds P) (k : n ≤ m) : FNo W m f ds P :=
  fun A s O vs a b c d Q E q => x A s O vs (a.le k) b c d Q E q
theorem FN.of_own {n : Nat} {f : Addr} {ds : List PyData} (x : FNo W n f ds fun ds => P (.list ds)) : FN W n f ds P :=
  fun A s O vs a b c d Q E q => x A s O vs a b c d Q E fun D vs ds s' hD k hl r p =>
    q _ (.list ds) s' k (Rp.of_list hl.isList (r.weak fun a q => .inl q) fun q => by
      obtain ⟨o, e⟩ := c _ q
      rw [hD] at e; cases e) p
theorem call_args {f : Addr} {fd : FuncData} {e : Expr} {es : List Expr} {pos : Pos} {s : Shared} {O : Addr → Prop} {m : Str → Option Value} {Q E : Value → Shared → Prop} {P : List PyData → Prop} (R : Rd W env ρ O m s.heap) (hf : W.Fun f fd)
    (h : EVs W A env ρ (e :: es) P)
    (hq : ∀ vs ds s', Mv s s' → RpAll O s'.heap vs ds → P ds → wpAny (model W.prog W.w) A (call (.ref f) vs) Q E s')
    (he : starEach (e :: es) env = (false, eval e env) :: starEach es env) :
    wpAny (model W.prog W.w) A (callWith pos (.ref f) [] (backTo pos (starEach (e :: es) env)) []) Q E s := by
  obtain ⟨o, ho, hd⟩ := hf.at_
  have hh := h s O m R pos
  rw [he] at hh ⊢
  refine callWith_function (o := o) (fd := fd) (evalArgs_plain (hh _ _ fun vs ds s₁ k₁ r p => ?_))
  exact ⟨⟨(R.gr.trans k₁.kp) _ _ ho, hd⟩, hq vs ds s₁ k₁ r p⟩
theorem ev_call {n : Nat} {g : Str} {gp pos : Pos} {f : Addr} {fd : FuncData} {e : Expr} {es : List Expr} (rm : Rm n A) (hg : W.Gl g (.ref f)) (hf : W.Fun f fd) (h : EVs W A env ρ (e :: es) fun ds => FN W n f ds P)
    (hk : env.kindOf g = some .globalImplicit := by rfl) (he : starEach (e :: es) env = (false, eval e env) :: starEach es env := by rfl) (hd : (g == ("__debug__" : Str)) = false := by decide) :
    EV W A env ρ (.Call (.Name g gp) (e :: es) [] pos) P := by
  intro s O m R Q E q
  refine wpAny_Call_NameR (gname R hg hk (call_args R hf h (fun vs ds s₁ k₁ r p => ?_) he) hd)
  exact p A _ O vs rm (R.gr.trans k₁.kp) (fun a x => (R.keeps k₁.kp).al a x) r _ _ fun v d s₂ k₂ rv pv => q v d s₂ (k₁.trans k₂) rv pv
theorem evo_call {n : Nat} {g : Str} {gp pos : Pos} {f : Addr} {fd : FuncData} {e : Expr} {es : List Expr} {P : List PyData → Prop} (rm : Rm n A) (hg : W.Gl g (.ref f)) (hf : W.Fun f fd) (h : EVs W A env ρ (e :: es) fun ds => FNo W n f ds P)
    (hk : env.kindOf g = some .globalImplicit := by rfl) (he : starEach (e :: es) env = (false, eval e env) :: starEach es env := by rfl) (hd : (g == ("__debug__" : Str)) = false := by decide) :
    EVo W A env ρ (.Call (.Name g gp) (e :: es) [] pos) P := by
  intro s O m R Q E q
  refine wpAny_Call_NameR (gname R hg hk (call_args R hf h (fun vs ds s₁ k₁ r p => ?_) he) hd)
  exact p A _ O vs rm (R.gr.trans k₁.kp) (fun a x => (R.keeps k₁.kp).al a x) r _ _ fun D vs ds s₂ hD k₂ hl rv pv => q D vs ds s₂ (k₁.kp.none hD) (k₁.trans k₂) hl rv pv
/-! ### built-in functions of one argument -/
theorem ev_b1 {g : Str} {gp pos : Pos} {id : String} {e : Expr} {P : PyData → Prop} (hg : W.Gl g (.builtin id))
    (h : EV W A env ρ e fun d => ∀ (s : Shared) (O : Addr → Prop) (v : Value), Rp O s.heap v d → ∀ (Q E : Value → Shared → Prop), (∀ v d s', Mv s s' → Rp O s'.heap v d → P d → Q v s') → wpAny (model W.prog W.w) A (call (.builtin id) [v]) Q E s)
    (hk : env.kindOf g = some .globalImplicit := by rfl) (he : starEach [e] env = [(false, eval e env)] := by rfl) (hd : (g == ("__debug__" : Str)) = false := by decide) :
    EV W A env ρ (.Call (.Name g gp) [e] [] pos) P := by
  intro s O m R Q E q
  refine wpAny_Call_NameR (gname R hg hk ?_ hd)
  rw [he]
  refine callWith_builtin rfl (evalArgs_plain (spliced_cons (h s O m R _ _ fun v d s₁ k₁ r p => spliced_nil ?_)))
  exact p _ O v r _ _ fun v d s₂ k₂ rv pv => q v d s₂ (k₁.trans k₂) rv pv
theorem ev_len {gp pos : Pos} {e : Expr} (hg : W.Gl "len" (.builtin "len")) (h : EV W A env ρ e fun d => match d with | .list ds => ds.length < 2 ^ 62 ∧ P (.int ds.length) | .tuple ds => ds.length < 2 ^ 62 ∧ P (.int ds.length) | _ => False)
    (hk : env.kindOf "len" = some .globalImplicit := by rfl) (he : starEach [e] env = [(false, eval e env)] := by rfl) : EV W A env ρ (.Call (.Name "len" gp) [e] [] pos) P := by
  refine ev_b1 hg (h.mono fun d p s O v r Q E q => ?_) hk he (by decide)
  cases d <;> try exact p.elim
  · obtain ⟨a, vs, rfl, hl, rs, _⟩ := r.list_inv
    refine len_list hl (by rw [List.size_toArray, rs.length]; omega) ?_
    have := q _ _ { s with toks := s.toks + 1 + 1 } .tok (.int _ (s.toks + 1)) p.2
    rw [List.size_toArray, rs.length]
    exact this
  · obtain ⟨a, vs, rfl, hl, rs⟩ := r.tuple_inv
    refine len_tuple hl (by rw [List.size_toArray, rs.length]; omega) ?_
    have := q _ _ { s with toks := s.toks + 1 + 1 } .tok (.int _ (s.toks + 1)) p.2
    rw [List.size_toArray, rs.length]
    exact this
theorem ev_abs {gp pos : Pos} {e : Expr} (hg : W.Gl "abs" (.builtin "abs")) (h : EV W A env ρ e fun d => match d with | .int i => P (.int (if i < 0 then -i else i)) | _ => False)
    (hk : env.kindOf "abs" = some .globalImplicit := by rfl) (he : starEach [e] env = [(false, eval e env)] := by rfl) : EV W A env ρ (.Call (.Name "abs" gp) [e] [] pos) P := by
  refine ev_b1 hg (h.mono fun d p s O v r Q E q => ?_) hk he (by decide)
  cases d <;> try exact p.elim
  obtain ⟨t, rfl⟩ := r.int_inv
  exact call_abs_int fun u tk => q _ _ _ .tok (.int _ u) p
/-- len(str(x)) -/
theorem ev_strlen {gp pos sp spos : Pos} {e : Expr} (hg : W.Gl "len" (.builtin "len")) (hs : W.Gl "str" (.type "str"))
    (h : EV W A env ρ e fun d => match d with | .int i => i.natAbs.log2 < 1920 ∧ P (.int (Str.length (Str.ofString (toString i)))) | _ => False)
    (hk : env.kindOf "len" = some .globalImplicit := by rfl) (hks : env.kindOf "str" = some .globalImplicit := by rfl) (he : starEach [e] env = [(false, eval e env)] := by rfl) 
    (he' : starEach [Expr.Call (.Name "str" sp) [e] [] spos] env = [(false, eval (.Call (.Name "str" sp) [e] [] spos) env)] := by rfl) :
    EV W A env ρ (.Call (.Name "len" gp) [.Call (.Name "str" sp) [e] [] spos] [] pos) P := by
  intro s O m R Q E q
  refine wpAny_Call_NameR (gname R hg hk ?_ (by decide))
  rw [he']
  refine callWith_builtin rfl (evalArgs_plain (spliced_cons ?_))
  refine wpAny_Call_NameR (gname R hs hks ?_ (by decide))
  rw [he]
  refine PySem.callWith_type rfl (evalArgs_plain (spliced_cons (h s O m R _ _ fun v d s₁ k₁ r p => spliced_nil ?_)))
  cases d <;> try exact p.elim
  rename_i i
  obtain ⟨t, rfl⟩ := r.int_inv
  refine PySem.P.str_of_int p.1 (spliced_nil ?_)
  have hb : (Str.length (Str.ofString (toString i))) ≤ 1921 := by
    rw [PySem.ofString_length]
    exact int_text_length_le (by decide) p.1
  refine PyProof.Rows.len_str (by show ¬ ((Str.length (Str.ofString (toString i)) : Nat) : Int) ≥ 2 ^ 63; omega) ?_
  exact q _ _ _ (k₁.trans .tok) (.int _ _) p.2
theorem ev_min {gp pos : Pos} {e f : Expr} (hh : A.handled = none) (hg : W.Gl "min" (.builtin "min"))
    (h : EV W A env ρ e fun d => EV W A env ρ f fun d' => match d, d' with | .int i, .int j => P (.int (if j < i then j else i)) | _, _ => False)
    (hk : env.kindOf "min" = some .globalImplicit := by rfl) (he : starEach [e, f] env = [(false, eval e env), (false, eval f env)] := by rfl) : EV W A env ρ (.Call (.Name "min" gp) [e, f] [] pos) P := by
  intro s O m R Q E q
  refine wpAny_Call_NameR (gname R hg hk ?_ (by decide))
  rw [he]
  refine callWith_builtin rfl (evalArgs_plain (spliced_cons (h s O m R _ _ fun v d s₁ k₁ r p => spliced_cons (p _ O m (R.keeps k₁.kp) _ _ fun v' d' s₂ k₂ r' z => spliced_nil ?_))))
  cases d <;> cases d' <;> try exact z.elim
  rename_i i j
  obtain ⟨t, rfl⟩ := r.int_inv
  obtain ⟨u, rfl⟩ := r'.int_inv
  dsimp only at z
  refine min_two_ints hh fun h₃ t₃ k₃ => ?_
  by_cases hji : j < i
  · rw [if_pos hji]; rw [if_pos hji] at z
    exact q _ _ _ ((k₁.trans k₂).trans (.of k₃)) (.int _ _) z
  · rw [if_neg hji]; rw [if_neg hji] at z
    exact q _ _ _ ((k₁.trans k₂).trans (.of k₃)) (.int _ _) z
/-- type(x) is T -/
def tyOf : PyData → String
  | .int _ => "int"
  | .list _ => "list"
  | .tuple _ => "tuple"
  | .bool _ => "bool"
  | _ => "?"
theorem tv_typeIs {T : Str} {tn : String} {gp pos p2 p3 : Pos} {e : Expr} {P : Bool → Prop} (hg : W.Gl "type" (.type "type")) (hT : W.Gl T (.type tn))
    (h : EV W A env ρ e fun d => (tyOf d = "int" ∨ tyOf d = "list" ∨ tyOf d = "tuple") ∧ P (tyOf d == tn))
    (hk : env.kindOf "type" = some .globalImplicit := by rfl) (hkT : env.kindOf T = some .globalImplicit := by rfl) (he : starEach [e] env = [(false, eval e env)] := by rfl) (hd : (T == ("__debug__" : Str)) = false := by decide) :
    TV W A env ρ (.Compare (.Call (.Name "type" gp) [e] [] pos) [.Is] [.Name T p2] p3) P := by
  intro s O m R Q E q
  refine wpAny_isTrue_Compare1 ?_ rfl
  refine wpAny_Call_NameR (gname R hg hk ?_ (by decide))
  rw [he]
  refine PySem.callWith_type rfl (evalArgs_plain (spliced_cons (h s O m R _ _ fun v d s₁ k₁ r p => spliced_nil ?_)))
  have key : ∀ tn', s₁.TypeIs v tn' → tyOf d = tn' → (Value.type tn' == Value.type "builtin_function_or_method") = false → wpAny (model W.prog W.w) A (call (.type "type") [v]) (fun a s₂ => wpAny (model W.prog W.w) A (eval (.Name T p2) env) (fun b s₃ => wpAny (model W.prog W.w) A (compareOp .Is a b) (fun c s₄ => wpAny (model W.prog W.w) A (truthy c) Q E s₄) E s₃) E s₂) E s₁ := by
    intro tn' ht e1 e2
    refine call_type_of ht e2 ?_
    refine gname (R.keeps k₁.kp) hT hkT ?_ hd
    refine wpAny_is_plain rfl (wpAny_truthy_bool ?_)
    have hp := p.2
    rw [e1] at hp
    have e3 : (Value.type tn' == Value.type tn) = (tn' == tn) := by
      by_cases hq : tn' = tn
      · subst hq; rw [beq_self_eq_true, beq_self_eq_true]
      · rw [beq_eq_false_iff_ne.mpr hq, beq_eq_false_iff_ne.mpr (fun z => hq (Value.type.inj z))]
    rw [e3]
    exact q _ s₁ k₁ hp
  rcases d with _ | _ | _ | _ | ds | ds | _
  · exact absurd p.1 (by simp [tyOf])
  · exact absurd p.1 (by simp [tyOf])
  · obtain ⟨t, rfl⟩ := r.int_inv
    exact key "int" (typeIs_int _ _ _) rfl (by decide +kernel)
  · exact absurd p.1 (by simp [tyOf])
  · obtain ⟨a, vs, rfl, hl, _⟩ := r.list_inv
    exact key "list" hl.typeIs rfl (by decide +kernel)
  · obtain ⟨a, vs, rfl, hl, _⟩ := r.tuple_inv
    exact key "tuple" hl.typeIs rfl (by decide +kernel)
  · exact absurd p.1 (by simp [tyOf])
end
end Mine

set_option maxRecDepth 100000
set_option autoImplicit false
set_option linter.unusedVariables false
namespace Mine
open PySem PySem.Calls PyProof.Rows PySem.Spec
/-! ### what is iterated -/
def IT (W : Wd) (A : Around) (env : Env) (ρ : Store) (iter : Expr) (P : List PyData → Prop) : Prop :=
  ∀ (s : Shared) (O : Addr → Prop) (m : Str → Option Value), Rd W env ρ O m s.heap → ∀ (K E : Value → Shared → Prop),
    (∀ I fp ds Pv St s₁ s', Mv s s₁ → Mv s₁ s' → s₁.heap.get? I = none → Walks W.prog W.w A I fp [I] ds.length Pv St → St 0 s'.heap → (∀ b ∈ fp, b = I ∨ ∃ o, s₁.heap.get? b = some o) → (∀ i h, St i h → ∃ o, h.get? I = some o ∧ ∀ vs k, o.data ≠ .seq vs k) →
      (∀ i v d, ds[i]? = some d → Pv i v → Rp O s₁.heap v d) → ds.length ≤ 2 ^ 20 → P ds → K (.ref I) s') →
    wpAny (model W.prog W.w) A (eval iter env) (fun x s₁ => wpAny (model W.prog W.w) A (pyIter x) K E s₁) E s
/-- the ints from a up to b -/
def rangeL (a b : Int) : List PyData := (List.range (b - a).toNat).map fun (i : Nat) => PyData.int (a + (i : Int))
theorem rangeL_length (a b : Int) : (rangeL a b).length = (b - a).toNat := by simp [rangeL]
section
variable {W : Wd} {A : Around} {env : Env} {ρ : Store} {P P' : PyData → Prop}
theorem IT.mono {iter : Expr} {P P' : List PyData → Prop} (x : IT W A env ρ iter P) (k : ∀ d, P d → P' d) : IT W A env ρ iter P' :=
  fun s O m R K E f => x s O m R K E fun I fp ds Pv St s₁ s' a b c d e g i j l p => f I fp ds Pv St s₁ s' a b c d e g i j l (k ds p)
theorem it_list {e : Expr} {P : List PyData → Prop} (hh : A.handled = none) (h : EV W A env ρ e fun d => match d with | .list ds => ds.length ≤ 2 ^ 20 ∧ P ds | _ => False) : IT W A env ρ e P := by
  intro s O m R K E f
  refine h s O m R _ _ fun v d s₁ k₁ r p => ?_
  cases d <;> try exact p.elim
  rename_i ds
  obtain ⟨ax, vs, rfl, hl, rs, _⟩ := r.list_inv
  have hlt : ax < s₁.heap.objs.size := by obtain ⟨_, e, _⟩ := hl; exact Heap.lt_size e
  refine wpAny_pyIter_list hl ?_
  have Wk := Walks.list (prog := W.prog) (w := W.w) hh s₁.heap.objs.size ax (Nat.ne_of_lt hlt) vs.toArray
  have en : vs.toArray.size = ds.length := by rw [List.size_toArray, rs.length]
  rw [en] at Wk
  refine f s₁.heap.objs.size _ ds _ _ s₁ _ k₁ .new (get_none_of_size _) Wk ⟨⟨_, Heap.get?_push_size _ rfl, rfl, rfl⟩, hl.push _⟩ ?_ (fun i h st => by
    obtain ⟨⟨o, e, _, d⟩, _⟩ := st
    exact ⟨o, e, fun vs k q => by rw [d] at q; cases q⟩) ?_ p.1 p.2
  · intro b hb
    rcases List.mem_cons.mp hb with rfl | hb
    · exact .inl rfl
    · rw [List.mem_singleton.mp hb]
      obtain ⟨o, e, _⟩ := hl
      exact .inr ⟨o, e⟩
  · intro i v d hd hv
    obtain ⟨v', hv', rv⟩ := rs.get hd
    have : vs[i]? = some v := by simpa using hv
    rw [this] at hv'; cases hv'
    exact rv
theorem range_items {O : Addr → Prop} {h₁ : Heap} {a b : Int} {i : Nat} {v : Value} {d : PyData} (hd : (rangeL a b)[i]? = some d) (hv : ∃ t, v = .int (a + (i : Int) * 1) t) : Rp O h₁ v d := by
  obtain ⟨t, rfl⟩ := hv
  unfold rangeL at hd
  rw [List.getElem?_map] at hd
  by_cases hi : i < (b - a).toNat
  · rw [List.getElem?_range hi] at hd
    simp at hd
    subst hd
    rw [Int.mul_one]
    exact .int _ _
  · rw [List.getElem?_eq_none (by simp; omega)] at hd
    cases hd
theorem it_range_core {a b : Int} {t u v : Tok} {O : Addr → Prop} {s s₁ : Shared} {r : Addr} {P : List PyData → Prop} {K E : Value → Shared → Prop} (hh : A.handled = none) (k₁ : Mv s s₁) (hr : IsRange s₁.heap r a b 1 t u v) (ha : -(2 ^ 20) ≤ a) (hb : b ≤ 2 ^ 20) (hb' : -(2 ^ 60) ≤ b) (ha' : a ≤ 2 ^ 20) (hab : b - a ≤ 2 ^ 20)
    (p : P (rangeL a b))
    (f : ∀ I fp ds Pv St s₁ s', Mv s s₁ → Mv s₁ s' → s₁.heap.get? I = none → Walks W.prog W.w A I fp [I] ds.length Pv St → St 0 s'.heap → (∀ b ∈ fp, b = I ∨ ∃ o, s₁.heap.get? b = some o) → (∀ i h, St i h → ∃ o, h.get? I = some o ∧ ∀ vs k, o.data ≠ .seq vs k) →
      (∀ i v d, ds[i]? = some d → Pv i v → Rp O s₁.heap v d) → ds.length ≤ 2 ^ 20 → P ds → K (.ref I) s') :
    wpAny (model W.prog W.w) A (pyIter (.ref r)) K E s₁ := by
  refine wpAny_pyIter_range hr (small_one (by omega) (by omega) (by omega) (by omega)) ?_
  have Wk := Walks.range (prog := W.prog) (w := W.w) hh s₁.heap.objs.size a 1 (b - a).toNat
  rw [← rangeL_length] at Wk
  refine f s₁.heap.objs.size _ (rangeL a b) _ _ s₁ _ k₁ .new (get_none_of_size _) Wk ?_ (fun b hb => .inl (List.mem_singleton.mp hb)) (fun i h st => ⟨_, st, fun vs k q => by cases q⟩) (fun i v d hd hv => range_items hd hv) (by rw [rangeL_length]; omega) p
  show Heap.get? _ _ = some _
  rw [Heap.get?_push_size _ rfl]
  have e : Builtin.Range.rangeSize a b 1 = ((rangeL a b).length : Int) := by
    rw [rangeL_length, rangeSize_one]; split <;> omega
  rw [e]
  simp
theorem it_range1 {gp pos : Pos} {e : Expr} {P : List PyData → Prop} (hh : A.handled = none) (hg : W.Gl "range" (.type "range")) (h : EV W A env ρ e fun d => match d with | .int n => -(2 ^ 20) ≤ n ∧ n ≤ 2 ^ 20 ∧ P (rangeL 0 n) | _ => False)
    (hk : env.kindOf "range" = some .globalImplicit := by rfl) (he : starEach [e] env = [(false, eval e env)] := by rfl) : IT W A env ρ (.Call (.Name "range" gp) [e] [] pos) P := by
  intro s O m R K E f
  refine wpAny_Call_NameR (gname R hg hk ?_ (by decide))
  rw [he]
  refine PySem.callWith_type rfl (evalArgs_plain (spliced_cons (h s O m R _ _ fun v d s₁ k₁ r p => spliced_nil ?_)))
  cases d <;> try exact p.elim
  obtain ⟨t, rfl⟩ := r.int_inv
  refine call_range_1 ?_
  exact it_range_core (s := s) hh (k₁.trans (.of (Kp.push _ _))) (IsRange.new ..) (by decide) p.2.1 (by have := p.1; omega) (by decide) (by have := p.2.1; omega) p.2.2 f
theorem it_range2 {gp pos : Pos} {e e' : Expr} {P : List PyData → Prop} (hh : A.handled = none) (hg : W.Gl "range" (.type "range")) (h : EV W A env ρ e fun d => EV W A env ρ e' fun d' => match d, d' with | .int a, .int b => 0 ≤ a ∧ a ≤ 2 ^ 20 ∧ -(2 ^ 20) ≤ b ∧ b ≤ 2 ^ 20 ∧ P (rangeL a b) | _, _ => False)
    (hk : env.kindOf "range" = some .globalImplicit := by rfl) (he : starEach [e, e'] env = [(false, eval e env), (false, eval e' env)] := by rfl) : IT W A env ρ (.Call (.Name "range" gp) [e, e'] [] pos) P := by
  intro s O m R K E f
  refine wpAny_Call_NameR (gname R hg hk ?_ (by decide))
  rw [he]
  refine PySem.callWith_type rfl (evalArgs_plain (spliced_cons (h s O m R _ _ fun v d s₁ k₁ r p => spliced_cons (p _ O m (R.keeps k₁.kp) _ _ fun v' d' s₂ k₂ r' z => spliced_nil ?_))))
  cases d <;> cases d' <;> try exact z.elim
  obtain ⟨t, rfl⟩ := r.int_inv
  obtain ⟨u, rfl⟩ := r'.int_inv
  dsimp only at z
  refine call_range_2 ?_
  exact it_range_core (s := s) hh ((k₁.trans k₂).trans (.of (Kp.push _ _))) (IsRange.new ..) (by omega) (by omega) (by omega) (by omega) (by omega) z.2.2.2.2 f

/-! ### comprehensions -/
theorem cellsFrom_append : ∀ (names : List (Str × NameKind)) (n : Nat) (acc : List (Str × Addr)), cellsFrom n names acc = cellsFrom n names [] ++ acc
  | [], _, _ => rfl
  | (x, k) :: r, n, acc => by
    unfold cellsFrom
    split
    · rw [cellsFrom_append r (n + 1) ((x, n) :: acc), cellsFrom_append r (n + 1) [(x, n)], List.append_assoc]; rfl
    · exact cellsFrom_append r n acc
theorem newEnv_comp {M : Model} {scope : Scope} {cl : List (Str × Addr)} {s : Shared} {Q : Env → Shared → Prop} {E : Value → Shared → Prop}
    (h : ∀ h', Kp s.heap h' → h'.Ns s.heap.objs.size (fun _ => none) → (∀ n c, (n, c) ∈ cellsFrom (s.heap.objs.size + 1) scope.names [] → h'.IsCell c none ∧ s.heap.objs.size + 1 ≤ c) →
      Q { scope := scope, locals := s.heap.objs.size, globals := env.globals, cells := cellsFrom (s.heap.objs.size + 1) scope.names cl, qual := env.qual, func := none, code := env.code, frame := env.frame, builtins := env.builtins } { s with heap := h' }) :
    wpAny M A (newFunctionEnv scope env.globals cl [] env.qual none .none (some env)) Q E s := by
  simp only [newFunctionEnv, Option.isSome_some, if_true]
  refine wpAny_bind (wpAny_alloc ?_)
  refine wpAny_bind (wpAny_layCells _ (fun name kind cells => by cases hkc : kind == NameKind.cell <;> simp [hkc]) _ _ _ _ ?_)
  have ok := cellsFrom_ok scope.names (s.heap.push { cls := .type "dict", data := .dict #[] }) (s.heap.objs.size + 1) [] ⟨fun _ _ hm => (nomatch hm), List.Pairwise.nil⟩ (by rw [Heap.size_push]; exact Nat.le_refl _)
  rw [Heap.size_push] at ok
  rw [show ({ s with heap := s.heap.push { cls := .type "dict", data := .dict #[] } } : Shared).heap.objs.size = s.heap.objs.size + 1 from Heap.size_push ..]
  refine wpAny_bind (wpAny_pure (wpAny_pure ?_))
  exact h _ (fun b o e => pushCells_keeps _ _ b o (Heap.get?_push_of_some _ e)) ((Heap.Ns.new s.heap (.type "dict")).keeps (pushCells_keeps _ _)) fun n c hm => ok.empty n c hm
abbrev ce (scope : Scope) (cl : List (Str × Addr)) (env : Env) (C : Addr) : Env := compEnvC scope (cellsFrom (C + 1) scope.names cl) C env
structure CompOk (scope : Scope) (env : Env) (cl : List (Str × Addr)) (x : Str) (fr : List Str) : Prop where
  clos : closureFor scope env = pure cl
  kind : scope.kind = .function
  names : ∀ z ∈ scope.names, z.2 = .local → scope.names.lookup z.1 = some .local
  hx : ∀ C, (ce scope cl env C).kindOf x = some .local ∨ ((ce scope cl env C).kindOf x = some .cell ∧ ∃ c, (ce scope cl env C).cells.lookup x = some c ∧ (x, c) ∈ cellsFrom (C + 1) scope.names [])
  hfr : ∀ C, ∀ y ∈ fr, y ≠ x ∧ env.kindOf y = some .cell ∧ (ce scope cl env C).kindOf y = some .cell ∧ (ce scope cl env C).cells.lookup y = env.cells.lookup y
def frStore (ρ : Store) (fr : List Str) : Store := fr.filterMap fun y => (ρ.lookup y).map fun sl => (y, sl)
theorem frStore_lookup {ρ : Store} {y : Str} {sl : Slot} : ∀ {fr : List Str}, (frStore ρ fr).lookup y = some sl → y ∈ fr ∧ ρ.lookup y = some sl
  | [], h => by cases h
  | z :: r, h => by
    unfold frStore at h
    rw [List.filterMap_cons] at h
    cases hz : ρ.lookup z with
    | none =>
      rw [hz] at h
      have := frStore_lookup (fr := r) h
      exact ⟨.tail _ this.1, this.2⟩
    | some q =>
      rw [hz] at h
      dsimp only [Option.map_some] at h
      rw [List.lookup_cons] at h
      by_cases hyz : y = z
      · subst hyz
        rw [beq_self_eq_true] at h
        exact ⟨.head _, by rw [hz]; exact h⟩
      · rw [beq_eq_false_iff_ne.mpr hyz] at h
        have := frStore_lookup (fr := r) h
        exact ⟨.tail _ this.1, this.2⟩
/-- the tests of a clause -/
def TVs (W : Wd) (A : Around) (env : Env) (ρ : Store) (ifs : List Expr) (b : Bool) : Prop := match ifs with
  | [] => b = true
  | [t] => TV W A env ρ t fun c => c = b
  | _ => False
end
end Mine

set_option maxRecDepth 100000
set_option autoImplicit false
set_option linter.unusedVariables false
namespace Mine
open PySem PySem.Calls PyProof.Rows PySem.Spec
section
variable {W : Wd} {A : Around} {env : Env} {ρ : Store} {P P' : PyData → Prop}
theorem ns_noSeq {h : Heap} {a : Addr} {m : Str → Option Value} (n : h.Ns a m) : ∃ o, h.get? a = some o ∧ ∀ vs k, o.data ≠ .seq vs k := by
  obtain ⟨o, es, ep, e, d, _⟩ := n
  exact ⟨o, e, fun vs k q => by rw [d] at q; cases q⟩
theorem cell_noSeq {h : Heap} {a : Addr} {v : Option Value} (n : h.IsCell a v) : ∃ o, h.get? a = some o ∧ ∀ vs k, o.data ≠ .seq vs k := by
  obtain ⟨o, e, d⟩ := n
  exact ⟨o, e, fun vs k q => by rw [d] at q; cases q⟩
theorem store_x {scope : Scope} {cl : List (Str × Addr)} {x : Str} {px : Pos} {fr : List Str} {C : Nat} {m' : Str → Option Value} {s : Shared} {v : Value} {Q : Unit → Shared → Prop} {E : Value → Shared → Prop}
    (ok : CompOk scope env cl x fr) (hns : s.heap.Ns C m') (hcells : ∀ n c, (n, c) ∈ cellsFrom (C + 1) scope.names [] → ∃ v, s.heap.IsCell c v) (hlo : ∀ n (c : Nat), (n, c) ∈ cellsFrom (C + 1) scope.names [] → C + 1 ≤ c)
    (f : ∀ h' tk m'' (T : Nat), (T = C ∨ ∃ n, (n, T) ∈ cellsFrom (C + 1) scope.names []) → (∀ b o, b ≠ T → s.heap.get? b = some o → h'.get? b = some o) → (∃ o, s.heap.get? T = some o ∧ ∀ vs k, o.data ≠ .seq vs k) → h'.Ns C m'' →
      (∀ n c, (n, c) ∈ cellsFrom (C + 1) scope.names [] → ∃ v, h'.IsCell c v) → Nm (ce scope cl env C) m'' h' x v → Q () { s with heap := h', toks := tk }) :
    wpAny (model W.prog W.w) A (assign (.Name x px) (ce scope cl env C) v) Q E s := by
  refine wpAny_assign_Name ?_
  have hk : (ce scope cl env C).scope.kind = .function := ok.kind
  rcases ok.hx C with hl | ⟨hl, c, hc, hm⟩
  · refine wpAny_storeName_local hl hns (fun h' hn hs => ?_) (by rw [hk]; rfl)
    refine f h' _ _ C (.inl rfl) (fun b o hb e => hs.extBut b o hb e) (ns_noSeq hns) hn (fun n c hm => ?_) (.inl ⟨hl, by simp⟩)
    obtain ⟨v, hv⟩ := hcells n c hm
    exact ⟨v, hv.sameBut hs (Nat.ne_of_gt (hlo n c hm))⟩
  · obtain ⟨v₀, hv₀⟩ := hcells x c hm
    refine wpAny_storeName_cell hk hl hc hv₀ fun h' hc' hs => ?_
    refine f h' s.toks m' c (.inr ⟨x, hm⟩) (fun b o hb e => hs.extBut b o hb e) (cell_noSeq hv₀) (hns.sameBut hs (Nat.ne_of_lt (hlo x c hm))) (fun n c₂ hm₂ => ?_) (.inr ⟨hl, c, hc, hc'⟩)
    by_cases q : c₂ = c
    · subst q; exact ⟨_, hc'⟩
    · obtain ⟨v, hv⟩ := hcells n c₂ hm₂
      exact ⟨v, hv.sameBut hs q⟩
theorem take_map {f : PyData → PyData} {pz : PyData → Bool} {ds : List PyData} {i : Nat} {d : PyData} (h : ds[i]? = some d) :
    ((ds.take (i + 1)).filter pz).map f = ((ds.take i).filter pz).map f ++ (if pz d then [f d] else []) := by
  rw [List.take_add_one, h]
  simp only [Option.toList_some, List.filter_append, List.map_append]
  congr 1
  cases hp : pz d <;> simp [hp]
theorem tests_tv {ifs : List Expr} {s : Shared} {O : Addr → Prop} {m : Str → Option Value} {b : Bool} {Q : Bool → Shared → Prop} {E : Value → Shared → Prop} (R : Rd W env ρ O m s.heap) (h : TVs W A env ρ ifs b) (q : ∀ s', Mv s s' → Q b s') :
    wpAny (model W.prog W.w) A (forIn ifs true fun c r => if r = true then do let ok ← isTrue c env (eval c env); pure (ForInStep.yield ok) else pure (ForInStep.yield r)) Q E s := by
  match ifs, h with
  | [], h => 
    have h' : b = true := h
    subst h'
    exact wpAny_tests_nil (q s (.refl _))
  | [t], h => exact wpAny_tests_one (h s O m R _ _ fun c s' k e => by subst e; exact q s' k)
set_option maxHeartbeats 1000000 in
theorem comp_core {elt iter : Expr} {x : Str} {px pos' : Pos} {ifs : List Expr} {scope : Scope} {pos : Pos} {cl : List (Str × Addr)} {fr : List Str} {use : Option (Value → Sem Unit)} {s : Shared} {O : Addr → Prop} {m : Str → Option Value} {Qc E : Value → Shared → Prop} {P : List PyData → Prop}
    (R : Rd W env ρ O m s.heap) (ok : CompOk scope env cl x fr) (f : PyData → PyData) (pz : PyData → Bool)
    (hi : IT W A env ρ iter fun ds => (∀ d ∈ ds, ∀ C, TVs W A (ce scope cl env C) ((x, .sh d) :: frStore ρ fr) ifs (pz d) ∧ (pz d = true → EV W A (ce scope cl env C) ((x, .sh d) :: frStore ρ fr) elt fun y => y = f d)) ∧ P ((ds.filter pz).map f))
    (hpost : ∀ D C ys outs s' m', s.heap.get? D = none → s.heap.get? C = none → D ≠ C → Mv s s' → s'.heap.Ns C m' → s'.heap.PlainList D ys.toArray → RpAll (fun a => O a ∨ a = D) s'.heap ys outs → P outs → compPost (model W.prog W.w) A E use Qc (.ref D) C (.ok .next) s')
    (hs : ∀ x, foldedSetIterable iter env x = pure x) :
    wpAny (model W.prog W.w) A (comprehension (.ListComp elt [⟨.Name x px, iter, ifs, 0⟩] scope pos) scope env pos' (newList []) false (eval iter env) use) Qc E s := by
  refine wpAny_comprehension_free (g := ⟨.Name x px, iter, ifs, 0⟩) (gs := []) rfl hs ok.clos ok.kind ok.names ?_
  refine hi s O m R _ _ fun I fp ds Pv St s₁ s₂ k₁ k₂ hI Wk st hfp hIo hit hlen p => ?_
  obtain ⟨hel, hP⟩ := p
  refine wpAny_newObj_type ?_ (by show ([] : List Value).toArray.size ≤ sizeLine; simp)
  refine newEnv_comp fun h₃ k₃ hns hcells => ?_
  dsimp only at k₃ hns hcells ⊢
  generalize hH2 : s₂.heap.push { cls := .type "list", dict := none, data := .seq ([] : List Value).toArray } = H2 at k₃ hns hcells ⊢
  have hC : (H2.objs.size : Nat) = s₂.heap.objs.size + 1 := by rw [← hH2, Heap.size_push]
  have kH : Kp s₂.heap H2 := by rw [← hH2]; exact Kp.push _ _
  have hD2 : H2.PlainList s₂.heap.objs.size ([] : List Value).toArray := ⟨0, by rw [← hH2]; exact Heap.get?_push_size _ rfl⟩
  have big2 : ∀ a : Nat, s₂.heap.objs.size ≤ a → s₂.heap.get? a = none := fun a ha => by
    cases e : s₂.heap.get? a with
    | none => rfl
    | some o => exact absurd (Heap.lt_size e) (Nat.not_lt.mpr ha)
  obtain ⟨oI, hIo', _⟩ := hIo 0 _ st
  have hIlt : (I : Nat) < s₂.heap.objs.size := Heap.lt_size hIo'
  generalize (s₂.heap.objs.size : Nat) = D at *
  generalize (H2.objs.size : Nat) = C at *
  subst hC
  have hDC : D ≠ D + 1 := Nat.ne_of_lt (Nat.lt_succ_self _)
  have big1 : ∀ a : Nat, D ≤ a → s₁.heap.get? a = none := fun a ha => k₂.kp.none (big2 a ha)
  have big0 : ∀ a : Nat, D ≤ a → s.heap.get? a = none := fun a ha => k₁.kp.none (big1 a ha)
  have hlo : ∀ n (c : Nat), (n, c) ∈ cellsFrom (D + 1 + 1) scope.names [] → D + 1 + 1 ≤ c := fun n c hm => (hcells n c hm).2
  have hTbig : ∀ T : Nat, (T = D + 1 ∨ ∃ n, (n, T) ∈ cellsFrom (D + 1 + 1) scope.names []) → D + 1 ≤ T := by
    rintro T (rfl | ⟨n, hm⟩)
    · exact Nat.le_refl _
    · exact Nat.le_of_succ_le (hlo n T hm)
  have nI : ∀ b : Nat, D ≤ b → b ∉ [I] := fun b hb hm => by
    have e : b = I := List.mem_singleton.mp hm
    rw [e] at hb
    exact absurd hIlt (Nat.not_lt.mpr hb)
  have loop : ∀ s₃ : Shared, s₃ = { s₂ with heap := h₃ } →
      codeAny (model W.prog W.w) A (.compLoop (.ListComp elt [⟨.Name x px, iter, ifs, 0⟩] scope pos) 0 (.ref I) (.ref D) (ce scope cl env (D + 1))) (compPost (model W.prog W.w) A E use Qc (.ref D) (D + 1)) s₃ := by
    rintro s₃ rfl
    refine codeAny_compLoop_tests
      (fun k s' => ∃ i ys m', Mo s₁ s' ∧ i ≤ ds.length ∧ k = ds.length + 1 - i ∧ St i s'.heap ∧ Kp s₁.heap s'.heap ∧ s'.heap.Ns (D + 1) m' ∧ (∀ n c, (n, c) ∈ cellsFrom (D + 1 + 1) scope.names [] → ∃ v, s'.heap.IsCell c v) ∧
        s'.heap.PlainList D ys.toArray ∧ RpAll (fun a => O a ∨ a = D) s'.heap ys (((ds.take i).filter pz).map f)) ?_ (ds.length + 1)
      ⟨0, [], _, k₂.mo.trans .heap, Nat.zero_le _, rfl, ?_, (k₂.kp.trans kH).trans k₃, hns, fun n c hm => ⟨_, (hcells n c hm).1⟩, hD2.at fun o e => k₃ _ o e, by simpa using RpAll.nil⟩
    · rintro k s' ⟨i, ys, m', mo, hi', rfl, hst', kh, hn', hcl', hpl, hrp⟩
      obtain ⟨oI', hIh, hIns⟩ := hIo i s'.heap hst'
      by_cases hlt : i < ds.length
      · have hd : ds[i]? = some ds[i] := List.getElem?_eq_getElem hlt
        have hdm : ds[i] ∈ ds := List.getElem_mem hlt
        generalize ds[i] = d at hd hdm
        obtain ⟨ht, he⟩ := hel d hdm (D + 1)
        refine Wk.item i _ _ _ hlt hst' fun v h₄ tk₄ hPv hst₄ hk₄ => ?_
        have kb₄ : ∀ b o, b ≠ I → s'.heap.get? b = some o → h₄.get? b = some o := fun b o hb e => hk₄ b o (by simpa using hb) e
        have kI : Kp s₁.heap h₄ := fun b o e => hk₄ b o (fun hm => by rw [List.mem_singleton.mp hm, hI] at e; cases e) (kh b o e)
        have hn₄ : h₄.Ns (D + 1) m' := hn'.at' fun o e => hk₄ _ o (nI _ (Nat.le_succ _)) e
        have hcl₄ : ∀ n c, (n, c) ∈ cellsFrom (D + 1 + 1) scope.names [] → ∃ v, h₄.IsCell c v := fun n c hm => by
          obtain ⟨v, o, e, q⟩ := hcl' n c hm
          exact ⟨v, o, hk₄ c o (nI c (Nat.le_of_succ_le (Nat.le_of_succ_le (hlo n c hm)))) e, q⟩
        have hpl₄ : h₄.PlainList D ys.toArray := hpl.at fun o e => hk₄ D o (nI D (Nat.le_refl _)) e
        have hrp₄ := hrp.butNs hIh hIns kb₄
        refine store_x ok hn₄ hcl₄ hlo fun h₅ tk₅ m₅ T hT kT hTo hn₅ hcl₅ hNm => ?_
        have hTD : D + 1 ≤ T := hTbig T hT
        obtain ⟨oT, hTo, hTns⟩ := hTo
        have neT : ∀ (b : Nat), b < D + 1 → b ≠ T := fun b hb q => by rw [q] at hb; exact absurd hb (Nat.not_lt.mpr hTD)
        have k₅ : Kp s₁.heap h₅ := fun b o e => kT b o (fun q => by rw [q, big1 T (Nat.le_of_succ_le hTD)] at e; cases e) (kI b o e)
        have hpl₅ : h₅.PlainList D ys.toArray := hpl₄.at fun o e => kT D o (neT D (Nat.lt_succ_self _)) e
        have hrp₅ := hrp₄.butNs hTo hTns kT
        have hst₅ : St (i + 1) h₅ := Wk.frame _ _ _ hst₄ fun b hb o e => kT b o (fun q => by
          rcases hfp b hb with rfl | ⟨o', e'⟩
          · exact neT _ (Nat.lt_succ_of_lt hIlt) q
          · rw [q, big1 T (Nat.le_of_succ_le hTD)] at e'; cases e') e
        have R₁ := R.keeps k₁.kp
        have Rc : Rd W (ce scope cl env (D + 1)) ((x, .sh d) :: frStore ρ fr) (fun a => O a ∨ a = D) m₅ h₅ := {
          fn := ok.kind
          gl := R.gl
          bi := R.bi
          ns := hn₅
          at_ := fun y dy hy => by
            rw [List.lookup_cons] at hy
            by_cases hyx : y = x
            · subst hyx
              rw [beq_self_eq_true] at hy
              cases hy
              exact ⟨v, hNm, (hit i v d hd hPv).addNew (big1 D (Nat.le_refl _)) k₅⟩
            · rw [beq_eq_false_iff_ne.mpr hyx] at hy
              obtain ⟨hyf, hyr⟩ := frStore_lookup hy
              obtain ⟨_, h1, h2, h3⟩ := ok.hfr (D + 1) y hyf
              obtain ⟨v', n', r'⟩ := R₁.at_ y dy hyr
              rcases n' with ⟨a, _⟩ | ⟨_, c, b, g⟩
              · rw [h1] at a; cases a
              · exact ⟨v', .inr ⟨h2, c, by rw [h3]; exact b, g.keeps k₅⟩, r'.addNew (big1 D (Nat.le_refl _)) k₅⟩
          al := fun a q => by
            rcases q with q | q
            · obtain ⟨o, e⟩ := R₁.al a q
              exact ⟨o, k₅ a o e⟩
            · subst q
              obtain ⟨n, e⟩ := hpl₅
              exact ⟨_, e⟩
          gr := R₁.gr.trans k₅ }
        refine tests_tv Rc ht fun s₆ mv₆ => ?_
        have k₆ := mv₆.kp
        have mo₆ : Mo s₁ s₆ := (mo.trans (Mo.trans .of .of)).trans mv₆.mo
        cases hpz : pz d with
        | false =>
          simp only [Bool.false_eq_true, if_false]
          refine ⟨ds.length + 1 - (i + 1), by omega, i + 1, ys, m₅, mo₆, hlt, rfl, Wk.frame _ _ _ hst₅ fun b _ o e => k₆ b o e, k₅.trans k₆, hn₅.keeps k₆, fun n c hm => ?_, hpl₅.at fun o e => k₆ _ o e, ?_⟩
          · obtain ⟨v, hv⟩ := hcl₅ n c hm
            exact ⟨v, hv.keeps k₆⟩
          · rw [take_map hd, hpz]
            simpa using hrp₅.keeps k₆
        | true =>
          simp only [if_true]
          refine he hpz _ _ m₅ (Rc.keeps k₆) _ _ fun y dy s₇ mv₇ ry ey => ?_
          have k₇ := mv₇.kp
          subst ey
          have hpl₇ : s₇.heap.PlainList D ys.toArray := (hpl₅.at fun o e => k₆ _ o e).at fun o e => k₇ _ o e
          have hrp₇ := (hrp₅.keeps k₆).keeps k₇
          have hsz : ys.toArray.size ≤ sizeLine := by
            rw [List.size_toArray, hrp₇.length, sizeLine_eq, List.length_map]
            have := List.length_filter_le pz (ds.take i)
            have := List.length_take_le i ds
            omega
          refine wpAny_list_append_plain (hsz := hsz) hpl₇ fun h₈ hl₈ hs₈ => ?_
          obtain ⟨nn, hD7⟩ := hpl₇
          have k₈ : ∀ b o, b ≠ D → s₇.heap.get? b = some o → h₈.get? b = some o := fun b o hb e => hs₈.extBut b o hb e
          refine ⟨ds.length + 1 - (i + 1), by omega, i + 1, ys ++ [y], m₅, (mo₆.trans mv₇.mo).trans .heap, hlt, rfl, Wk.frame _ _ _ hst₅ fun b hb o e => k₈ b o (fun q => ?_) (k₇ b o (k₆ b o e)), ?_, ((hn₅.keeps k₆).keeps k₇).sameBut hs₈ (Ne.symm hDC), fun n c hm => ?_, by simpa using hl₈, ?_⟩
          · rcases hfp b hb with rfl | ⟨o', e'⟩
            · exact Nat.ne_of_lt hIlt q
            · rw [q, big1 D (Nat.le_refl _)] at e'; cases e'
          · exact fun b o e => k₈ b o (fun q => by rw [q, big1 D (Nat.le_refl _)] at e; cases e) (k₇ b o (k₆ b o (k₅ b o e)))
          · obtain ⟨v, hv⟩ := hcl₅ n c hm
            exact ⟨v, ((hv.keeps k₆).keeps k₇).sameBut hs₈ (Nat.ne_of_gt (Nat.lt_of_succ_lt (Nat.lt_of_lt_of_le (Nat.lt_succ_self _) (hlo n c hm))))⟩
          · rw [take_map hd, hpz]
            exact (hrp₇.butOwn hD7 rfl (.inr rfl) k₈).append (.cons (ry.butOwn hD7 rfl (.inr rfl) k₈) .nil)
      · obtain rfl : i = ds.length := Nat.le_antisymm hi' (Nat.not_lt.mp hlt)
        refine Wk.done _ _ _ hst' fun h₄ tk₄ hk₄ => ?_
        have kb₄ : ∀ b o, b ≠ I → s'.heap.get? b = some o → h₄.get? b = some o := fun b o hb e => hk₄ b o (by simpa using hb) e
        have kI : Kp s₁.heap h₄ := fun b o e => hk₄ b o (fun hm => by rw [List.mem_singleton.mp hm, hI] at e; cases e) (kh b o e)
        have hrp₄ := hrp.butNs hIh hIns kb₄
        rw [List.take_length] at hrp₄
        exact hpost D (D + 1) ys _ _ m' (big0 D (Nat.le_refl _)) (big0 (D + 1) (Nat.le_succ _)) hDC (k₁.trans ((mo.trans .of).mv kI)) (hn'.at' fun o e => hk₄ _ o (nI _ (Nat.le_succ _)) e) (hpl.at fun o e => hk₄ D o (nI D (Nat.le_refl _)) e) hrp₄ hP
    · exact Wk.frame _ _ _ st fun b hb o e => k₃ b o (kH b o e)
  exact codeAny_compStart_list (loop _ rfl) (Wk.self 0 _ _ _ (Wk.frame _ _ _ st fun b hb o e => k₃ b o (kH b o e)) (loop _ rfl))
theorem evo_comp {elt iter : Expr} {x : Str} {px : Pos} {ifs : List Expr} {scope : Scope} {pos : Pos} {cl : List (Str × Addr)} {fr : List Str} {P : List PyData → Prop}
    (ok : CompOk scope env cl x fr) (f : PyData → PyData) (pz : PyData → Bool)
    (hi : IT W A env ρ iter fun ds => (∀ d ∈ ds, ∀ C, TVs W A (ce scope cl env C) ((x, .sh d) :: frStore ρ fr) ifs (pz d) ∧ (pz d = true → EV W A (ce scope cl env C) ((x, .sh d) :: frStore ρ fr) elt fun y => y = f d)) ∧ P ((ds.filter pz).map f))
    (hs : ∀ x, foldedSetIterable iter env x = pure x := by intro _; rfl) : EVo W A env ρ (.ListComp elt [⟨.Name x px, iter, ifs, 0⟩] scope pos) P := by
  intro s O m R Q E q
  rw [eval_ListComp]
  refine comp_core R ok f pz hi (fun D C ys outs s' m' hD hC hDC k hn hl hr hp => ?_) hs
  refine ⟨m', hn, fun h'' hs'' => ?_⟩
  obtain ⟨o, e, ns⟩ := ns_noSeq hn
  refine q D ys outs { s' with heap := h'' } hD ((k.mo.trans .heap).mv fun b o e => hs''.extBut b o (fun z => by rw [z, hC] at e; cases e) (k.kp b o e)) (hl.extBut hs''.extBut hDC) (hr.butNs e ns fun b o hb e => hs''.extBut b o hb e) hp
end
end Mine

set_option maxRecDepth 100000
set_option autoImplicit false
set_option linter.unusedVariables false
namespace Mine
open PySem PySem.Calls PyProof.Rows PySem.Spec
/-! ## statements -/
def LsB (pl : Bool) (h : Heap) (a : Addr) (its : Array Value) : Prop := match pl with
  | true => h.PlainList a its
  | false => h.IsList a its
theorem LsB.isList {pl : Bool} {h : Heap} {a : Addr} {its : Array Value} (x : LsB pl h a its) : h.IsList a its := by
  cases pl with
  | true => exact Heap.PlainList.isList x
  | false => exact x
theorem LsB.at {pl : Bool} {h h' : Heap} {a : Addr} {its : Array Value} (x : LsB pl h a its) (k : ∀ o, h.get? a = some o → (∃ n, o.data = .seq its n) → h'.get? a = some o) : LsB pl h' a its := by
  cases pl with
  | true => obtain ⟨n, e⟩ := x; exact ⟨n, k _ e ⟨n, rfl⟩⟩
  | false => obtain ⟨o, e, c, n, d⟩ := x; exact ⟨o, k _ e ⟨n, d⟩, c, n, d⟩
structure InvC (W : Wd) (k : Addr → Option Obj) (O₀ : Addr → Prop) (env : Env) (ρ : Store) (O : Addr → Prop) (m : Str → Option Value) (ad : Str → Addr) (h : Heap) : Prop where
  rd : Rd W env ρ O m h
  sub : ∀ a, O₀ a → O a
  kb : ∀ b o, W.base.get? b = some o → k b = some o
  kk : ∀ b o, k b = some o → h.get? b = some o
  kl : k env.locals = none
  kc : ∀ x c, env.cells.lookup x = some c → k c = none ∧ ∃ v, h.IsCell c v
  ap : env.cells.Pairwise fun x y => x.2 ≠ y.2
  ow : ∀ x pl ds, ρ.lookup x = some (.own pl ds) → ∃ vs, Nm env m h x (.ref (ad x)) ∧ O (ad x) ∧ ¬ O₀ (ad x) ∧ k (ad x) = none ∧ LsB pl h (ad x) vs.toArray ∧ RpAll O h vs ds
  okk : ∀ a, O a → O₀ a ∨ k a = none
  inj : ∀ x y pl pe ds es, ρ.lookup x = some (.own pl ds) → ρ.lookup y = some (.own pe es) → ad x = ad y → x = y
def Inv (W : Wd) (k : Addr → Option Obj) (O₀ : Addr → Prop) (env : Env) (ρ : Store) (s : Shared) : Prop := ∃ O m ad, InvC W k O₀ env ρ O m ad s.heap
inductive Out where
  | next (ρ : Store)
  | brk (ρ : Store)
  | cont (ρ : Store)
  | ret (d : PyData)
  | reto (ds : List PyData)
def Fl (W : Wd) (k : Addr → Option Obj) (O₀ : Addr → Prop) (env : Env) : Out → Flow → Shared → Prop
  | .next ρ, fl, s' => fl = .next ∧ Inv W k O₀ env ρ s'
  | .brk ρ, fl, s' => fl = .brk ∧ Inv W k O₀ env ρ s'
  | .cont ρ, fl, s' => fl = .cont ∧ Inv W k O₀ env ρ s'
  | .ret d, fl, s' => ∃ v, fl = .ret v ∧ (∀ b o, k b = some o → s'.heap.get? b = some o) ∧ Rp O₀ s'.heap v d
  | .reto ds, fl, s' => ∃ D vs, fl = .ret (.ref D) ∧ (∀ b o, k b = some o → s'.heap.get? b = some o) ∧ k D = none ∧ ¬ O₀ D ∧ s'.heap.PlainList D vs.toArray ∧ RpAll (fun a => O₀ a ∨ a = D) s'.heap vs ds
def EX (W : Wd) (A : Around) (env : Env) (ρ : Store) (ss : List Stmt) (P : Out → Prop) : Prop :=
  ∀ (k : Addr → Option Obj) (O₀ : Addr → Prop) (s : Shared), Inv W k O₀ env ρ s → ∀ (Q : Flow → Shared → Prop) (E : Value → Shared → Prop),
    (∀ o fl s', P o → Mo s s' → Fl W k O₀ env o fl s' → Q fl s') → wpAny (model W.prog W.w) A (execs ss env) Q E s
def EX1 (W : Wd) (A : Around) (env : Env) (ρ : Store) (st : Stmt) (P : Out → Prop) : Prop :=
  ∀ (k : Addr → Option Obj) (O₀ : Addr → Prop) (s : Shared), Inv W k O₀ env ρ s → ∀ (Q : Flow → Shared → Prop) (E : Value → Shared → Prop),
    (∀ o fl s', P o → Mo s s' → Fl W k O₀ env o fl s' → Q fl s') → wpAny (model W.prog W.w) A (exec st env) Q E s
section
variable {W : Wd} {A : Around} {env : Env} {ρ : Store} {P P' : Out → Prop} {k : Addr → Option Obj} {O₀ O : Addr → Prop} {m : Str → Option Value} {ad : Str → Addr} {h h' : Heap}
theorem EX.mono {ss : List Stmt} (x : EX W A env ρ ss P) (q : ∀ o, P o → P' o) : EX W A env ρ ss P' := fun k O₀ s I Q E f => x k O₀ s I Q E fun o fl s' p => f o fl s' (q o p)
theorem EX1.mono {st : Stmt} (x : EX1 W A env ρ st P) (q : ∀ o, P o → P' o) : EX1 W A env ρ st P' := fun k O₀ s I Q E f => x k O₀ s I Q E fun o fl s' p => f o fl s' (q o p)
theorem InvC.keeps (I : InvC W k O₀ env ρ O m ad h) (q : Kp h h') : InvC W k O₀ env ρ O m ad h' where
  rd := I.rd.keeps q
  sub := I.sub
  kb := I.kb
  kk := fun b o e => q b o (I.kk b o e)
  kl := I.kl
  kc := fun x c hm => ⟨(I.kc x c hm).1, let ⟨v, e⟩ := (I.kc x c hm).2; ⟨v, e.keeps q⟩⟩
  ap := I.ap
  ow := fun x pl ds e => let ⟨vs, a, b, c, d, l, r⟩ := I.ow x pl ds e; ⟨vs, a.keeps q, b, c, d, l.at fun o e _ => q _ o e, r.keeps q⟩
  okk := I.okk
  inj := I.inj
theorem ex_nil (p : P (.next ρ)) : EX W A env ρ [] P := fun k O₀ s I Q E f => wpAny_execs_nil (f (.next ρ) _ s p (.refl s) ⟨rfl, I⟩)
theorem ex_cons {st : Stmt} {rest : List Stmt} (x : EX1 W A env ρ st fun o => match o with | .next ρ' => EX W A env ρ' rest P | o => P o) : EX W A env ρ (st :: rest) P := by
  intro k O₀ s I Q E f
  refine wpAny_execs_cons (x k O₀ s I _ _ fun o fl s' p sm g => ?_)
  cases o with
  | next ρ' =>
    obtain ⟨rfl, I'⟩ := g
    exact p k O₀ s' I' Q E fun o fl s'' p sm' g => f o fl s'' p (sm.trans sm') g
  | brk ρ' => obtain ⟨rfl, I'⟩ := g; exact f (.brk ρ') _ s' p sm ⟨rfl, I'⟩
  | cont ρ' => obtain ⟨rfl, I'⟩ := g; exact f (.cont ρ') _ s' p sm ⟨rfl, I'⟩
  | ret d => obtain ⟨v, rfl, g⟩ := g; exact f (.ret d) _ s' p sm ⟨v, rfl, g⟩
  | reto ds => obtain ⟨D, vs, rfl, g⟩ := g; exact f (.reto ds) _ s' p sm ⟨D, vs, rfl, g⟩
theorem ex_if {test : Expr} {body orelse : List Stmt} {pos : Pos} (x : TV W A env ρ test fun b => if b then EX W A env ρ body P else EX W A env ρ orelse P) : EX1 W A env ρ (.If test body orelse pos) P := by
  intro k O₀ s I Q E f
  obtain ⟨O, m, ad, I⟩ := I
  refine wpAny_If (x s O m I.rd _ _ fun b s₁ k₁ p => ?_)
  have I' : Inv W k O₀ env ρ s₁ := ⟨O, m, ad, I.keeps k₁.kp⟩
  cases b with
  | true => exact p k O₀ _ I' Q E fun o fl s'' p sm' g => f o fl s'' p (k₁.mo.trans sm') g
  | false => exact p k O₀ _ I' Q E fun o fl s'' p sm' g => f o fl s'' p (k₁.mo.trans sm') g
theorem ex_ret {e : Expr} {pos : Pos} (x : EV W A env ρ e fun d => P (.ret d)) : EX1 W A env ρ (.Return (some e) pos) P := by
  intro k O₀ s I Q E f
  obtain ⟨O, m, ad, I⟩ := I
  refine wpAny_Return_some (x s O m I.rd _ _ fun v d s₁ k₁ r p => ?_)
  exact f (.ret d) _ _ p k₁.mo ⟨v, rfl, fun b o e => k₁.kp b o (I.kk b o e), r.weak I.sub⟩
theorem ex_reto {e : Expr} {pos : Pos} (x : EVo W A env ρ e fun ds => P (.reto ds)) : EX1 W A env ρ (.Return (some e) pos) P := by
  intro k O₀ s I Q E f
  obtain ⟨O, m, ad, I⟩ := I
  refine wpAny_Return_some (x s O m I.rd _ _ fun D vs ds s₁ hD k₁ hl r p => ?_)
  refine f (.reto ds) _ _ p k₁.mo ⟨D, vs, rfl, fun b o e => k₁.kp b o (I.kk b o e), ?_, fun q => I.rd.fresh hD (I.sub _ q), hl, r.weak fun a q => q.imp (I.sub a) id⟩
  cases q : k D with
  | none => rfl
  | some o => rw [I.kk D o q] at hD; cases hD
/-- an own list is handed back -/
theorem ex_reto_name {x : Str} {xp pos : Pos} {ds : List PyData} (hx : ρ.lookup x = some (.own true ds)) (p : P (.reto ds)) (hd : (x == ("__debug__" : Str)) = false := by decide) : EX1 W A env ρ (.Return (some (.Name x xp)) pos) P := by
  intro k O₀ s I Q E f
  obtain ⟨O, m, ad, I⟩ := I
  obtain ⟨vs, n, oO, nO, kn, hl, r⟩ := I.ow x true ds hx
  have q := f (.reto ds) _ s p (.refl s) ⟨ad x, vs, rfl, I.kk, kn, nO, hl, r.weak fun a q => q.elim (I.sub a) fun e => e ▸ oO⟩
  refine wpAny_Return_some ?_
  rcases n with ⟨a, b⟩ | ⟨a, c, b, g⟩
  · exact wpAny_Name (wpAny_loadName_local I.rd.fn a I.rd.ns b q) hd
  · exact wpAny_Name (wpAny_loadName_cell I.rd.fn a b g q) hd
theorem ex_continue {pos : Pos} (p : P (.cont ρ)) : EX1 W A env ρ (.Continue pos) P := fun k O₀ s I Q E f => wpAny_Continue (f (.cont ρ) _ s p (.refl s) ⟨rfl, I⟩)
/-! ### storing a name -/
def Stb (env : Env) (x : Str) : Prop := env.kindOf x = some .local ∨ (env.kindOf x = some .cell ∧ ∃ c, env.cells.lookup x = some c)
structure Stored (env : Env) (k : Addr → Option Obj) (m : Str → Option Value) (h : Heap) (x : Str) (v : Value) (T : Addr) (m' : Str → Option Value) (h' : Heap) : Prop where
  nm : Nm env m' h' x v
  others : ∀ y w, y ≠ x → Nm env m h y w → Nm env m' h' y w
  ns : h'.Ns env.locals m'
  but : ∀ b o, b ≠ T → h.get? b = some o → h'.get? b = some o
  nos : ∃ o, h.get? T = some o ∧ ∀ vs n, o.data ≠ .seq vs n
  kT : k T = none
  cells : ∀ y c, env.cells.lookup y = some c → ∃ v, h'.IsCell c v
  stays : ∃ o, h'.get? T = some o
  wh : T = env.locals ∨ ∃ y, env.cells.lookup y = some T
theorem st_core {x : Str} {v : Value} {s : Shared} {Q : Unit → Shared → Prop} {E : Value → Shared → Prop} (I : InvC W k O₀ env ρ O m ad s.heap) (hx : Stb env x)
    (f : ∀ h' tk m' T, Stored env k m s.heap x v T m' h' → Q () { s with heap := h', toks := tk }) : wpAny (model W.prog W.w) A (storeName env x v) Q E s := by
  have nsq := ns_noSeq I.rd.ns
  rcases hx with hl | ⟨hl, c, hc⟩
  · refine wpAny_storeName_local hl I.rd.ns (fun h' hn hs => ?_) (by rw [I.rd.fn]; rfl)
    have cne : ∀ y c, env.cells.lookup y = some c → c ≠ env.locals := fun y c hm q => by
      obtain ⟨v, o, e, d⟩ := (I.kc y c hm).2
      obtain ⟨oL, es, ep, e', d', _⟩ := I.rd.ns
      rw [q, e'] at e; cases e
      rw [d'] at d; cases d
    refine f h' _ _ env.locals ⟨.inl ⟨hl, by simp⟩, fun y w hy n => ?_, hn, fun b o hb e => hs.extBut b o hb e, nsq, I.kl, fun y c hm => ?_, ?_, .inl rfl⟩
    · rcases n with ⟨a, b⟩ | ⟨a, c, b, g⟩
      · exact .inl ⟨a, by simp [hy, b]⟩
      · exact .inr ⟨a, c, b, g.sameBut hs (cne y c b)⟩
    · obtain ⟨v, e⟩ := (I.kc y c hm).2
      exact ⟨v, e.sameBut hs (cne y c hm)⟩
    · obtain ⟨o, _, _, e, _⟩ := hn
      exact ⟨o, e⟩
  · obtain ⟨kn, v₀, hv₀⟩ := I.kc x c hc
    have cL : env.locals ≠ c := fun q => by
      obtain ⟨o, e, d⟩ := hv₀
      obtain ⟨oL, es, ep, e', d', _⟩ := I.rd.ns
      rw [← q, e'] at e; cases e
      rw [d'] at d; cases d
    refine wpAny_storeName_cell I.rd.fn hl hc hv₀ fun h' hc' hs => ?_
    refine f h' s.toks m c ⟨.inr ⟨hl, c, hc, hc'⟩, fun y w hy n => ?_, I.rd.ns.sameBut hs cL, fun b o hb e => hs.extBut b o hb e, cell_noSeq hv₀, kn, fun y c₂ hm => ?_, ?_, .inr ⟨x, hc⟩⟩
    · rcases n with ⟨a, b⟩ | ⟨a, c₂, b, g⟩
      · exact .inl ⟨a, b⟩
      · exact .inr ⟨a, c₂, b, g.sameBut hs fun q => hy (name_of_addr I.ap (mem_of_lookup b) (q ▸ mem_of_lookup hc))⟩
    · by_cases q : c₂ = c
      · subst q; exact ⟨_, hc'⟩
      · obtain ⟨v, e⟩ := (I.kc y c₂ hm).2
        exact ⟨v, e.sameBut hs q⟩
    · obtain ⟨o, e, _⟩ := hc'
      exact ⟨o, e⟩
theorem plain_but {T a : Addr} {its : Array Value} (hT : ∃ o, h.get? T = some o ∧ ∀ vs n, o.data ≠ .seq vs n) (b : ∀ b o, b ≠ T → h.get? b = some o → h'.get? b = some o) {pl : Bool} (l : LsB pl h a its) : LsB pl h' a its := by
  obtain ⟨o, e', ns⟩ := hT
  refine l.at fun o₁ e c => b a _ (fun q => ?_) e
  rw [q, e'] at e; cases e
  obtain ⟨n, d⟩ := c
  exact ns _ _ d
theorem lookup_self {x : Str} {sl : Slot} {ρ : Store} : List.lookup x ((x, sl) :: ρ) = some sl := by rw [List.lookup_cons, beq_self_eq_true]
theorem lookup_ne {x y : Str} {sl : Slot} {ρ : Store} (h : y ≠ x) : List.lookup y ((x, sl) :: ρ) = ρ.lookup y := by rw [List.lookup_cons, beq_eq_false_iff_ne.mpr h]
theorem InvC.stored {x : Str} {v : Value} {d : PyData} {T : Addr} {m' : Str → Option Value} (I : InvC W k O₀ env ρ O m ad h) (S : Stored env k m h x v T m' h') (r : Rp O h v d) : InvC W k O₀ env ((x, .sh d) :: ρ) O m' ad h' := by
  obtain ⟨oT, hT, nT⟩ := S.nos
  have kk' : ∀ b o, k b = some o → h'.get? b = some o := fun b o e => S.but b o (fun q => by rw [q, S.kT] at e; cases e) (I.kk b o e)
  refine { rd := ⟨I.rd.fn, I.rd.gl, I.rd.bi, S.ns, fun y dy hy => ?_, fun a q => ?_, fun b o e => kk' b o (I.kb b o e)⟩, sub := I.sub, kb := I.kb, kk := kk', kl := I.kl, kc := fun y c hm => ⟨(I.kc y c hm).1, S.cells y c hm⟩, ap := I.ap, ow := fun y pl ds hy => ?_, okk := I.okk, inj := fun y z pl pe ds es hy hz e => ?_ }
  · by_cases q : y = x
    · subst q
      rw [lookup_self] at hy; cases hy
      exact ⟨v, S.nm, r.butNs hT nT S.but⟩
    · rw [lookup_ne q] at hy
      obtain ⟨w, n, rw'⟩ := I.rd.at_ y dy hy
      exact ⟨w, S.others y w q n, rw'.butNs hT nT S.but⟩
  · by_cases q' : a = T
    · subst q'; exact S.stays
    · obtain ⟨o, e⟩ := I.rd.al a q
      exact ⟨o, S.but a o q' e⟩
  · by_cases q : y = x
    · subst q; rw [lookup_self] at hy; cases hy
    · rw [lookup_ne q] at hy
      obtain ⟨vs, n, a, b, c, l, rs⟩ := I.ow y pl ds hy
      exact ⟨vs, S.others y _ q n, a, b, c, plain_but S.nos S.but l, rs.butNs hT nT S.but⟩
  · by_cases q : y = x
    · subst q; rw [lookup_self] at hy; cases hy
    · by_cases q' : z = x
      · subst q'; rw [lookup_self] at hz; cases hz
      · rw [lookup_ne q] at hy; rw [lookup_ne q'] at hz
        exact I.inj y z pl pe ds es hy hz e
theorem InvC.kfresh {D : Addr} (I : InvC W k O₀ env ρ O m ad h) (hD : h.get? D = none) : k D = none := by
  cases q : k D with
  | none => rfl
  | some o => rw [I.kk D o q] at hD; cases hD
/-- a fresh list is set apart -/
theorem InvC.withFresh {D : Addr} (I : InvC W k O₀ env ρ O m ad h) (hD : h.get? D = none) (q : Kp h h') (hD' : ∃ o, h'.get? D = some o) : InvC W k O₀ env ρ (fun a => O a ∨ a = D) m ad h' := by
  have J := I.keeps q
  refine { rd := ⟨J.rd.fn, J.rd.gl, J.rd.bi, J.rd.ns, fun y dy hy => ?_, fun a p => ?_, J.rd.gr⟩, sub := fun a p => .inl (I.sub a p), kb := I.kb, kk := J.kk, kl := I.kl, kc := J.kc, ap := I.ap, ow := fun y pl ds hy => ?_, okk := fun a p => p.elim (I.okk a) fun e => .inr (e ▸ I.kfresh hD), inj := I.inj }
  · obtain ⟨w, n, r⟩ := I.rd.at_ y dy hy
    exact ⟨w, n.keeps q, r.addNew hD q⟩
  · rcases p with p | p
    · exact J.rd.al a p
    · rw [p]; exact hD'
  · obtain ⟨vs, n, a, b, c, l, rs⟩ := I.ow y pl ds hy
    exact ⟨vs, n.keeps q, .inl a, b, c, l.at fun o e _ => q _ o e, rs.addNew hD q⟩
theorem InvC.storedOwn {x : Str} {D : Addr} {vs : List Value} {ds : List PyData} {T : Addr} {m' : Str → Option Value} (I : InvC W k O₀ env ρ O m ad h) (S : Stored env k m h x (.ref D) T m' h') (oD : O D) (nD : ¬ O₀ D) (kD : k D = none)
    (hl : h.PlainList D vs.toArray) (r : RpAll O h vs ds) (hne : ∀ y pe es, ρ.lookup y = some (.own pe es) → ad y ≠ D) : InvC W k O₀ env ((x, .own true ds) :: ρ) O m' (fun y => if y = x then D else ad y) h' := by
  obtain ⟨oT, hT, nT⟩ := S.nos
  have kk' : ∀ b o, k b = some o → h'.get? b = some o := fun b o e => S.but b o (fun q => by rw [q, S.kT] at e; cases e) (I.kk b o e)
  refine { rd := ⟨I.rd.fn, I.rd.gl, I.rd.bi, S.ns, fun y dy hy => ?_, fun a q => ?_, fun b o e => kk' b o (I.kb b o e)⟩, sub := I.sub, kb := I.kb, kk := kk', kl := I.kl, kc := fun y c hm => ⟨(I.kc y c hm).1, S.cells y c hm⟩, ap := I.ap, ow := fun y pl ds' hy => ?_, okk := I.okk, inj := fun y z pl pe ds' es hy hz e => ?_ }
  · by_cases q : y = x
    · subst q
      rw [lookup_self] at hy; cases hy
    · rw [lookup_ne q] at hy
      obtain ⟨w, n, rw'⟩ := I.rd.at_ y dy hy
      exact ⟨w, S.others y w q n, rw'.butNs hT nT S.but⟩
  · by_cases q' : a = T
    · subst q'; exact S.stays
    · obtain ⟨o, e⟩ := I.rd.al a q
      exact ⟨o, S.but a o q' e⟩
  · by_cases q : y = x
    · subst q
      rw [lookup_self] at hy; cases hy
      simp only [if_true]
      exact ⟨vs, S.nm, oD, nD, kD, plain_but S.nos S.but hl, r.butNs hT nT S.but⟩
    · rw [lookup_ne q] at hy
      simp only [if_neg q]
      obtain ⟨vs, n, a, b, c, l, rs⟩ := I.ow y pl ds' hy
      exact ⟨vs, S.others y _ q n, a, b, c, plain_but S.nos S.but l, rs.butNs hT nT S.but⟩
  · by_cases q : y = x
    · by_cases q' : z = x
      · rw [q, q']
      · rw [lookup_ne q'] at hz
        rw [if_pos q, if_neg q'] at e
        exact absurd e.symm (hne z pe es hz)
    · by_cases q' : z = x
      · rw [lookup_ne q] at hy
        rw [if_neg q, if_pos q'] at e
        exact absurd e (hne y pl ds' hy)
      · rw [lookup_ne q] at hy; rw [lookup_ne q'] at hz
        rw [if_neg q, if_neg q'] at e
        exact I.inj y z pl pe ds' es hy hz e
theorem InvC.ne_fresh {D : Addr} (I : InvC W k O₀ env ρ O m ad h) (hD : h.get? D = none) : ∀ y pe es, ρ.lookup y = some (.own pe es) → ad y ≠ D := fun y pe es hy q => by
  obtain ⟨vs, n, a, b, c, l, rs⟩ := I.ow y pe es hy
  obtain ⟨o, l, _⟩ := l.isList
  rw [q, hD] at l; cases l
theorem InvC.butNs {C : Addr} (J : InvC W k O₀ env ρ O m ad h) (hC : ∃ o, h.get? C = some o ∧ ∀ vs n, o.data ≠ .seq vs n) (kC : k C = none) (hL : env.locals ≠ C) (hcell : ∀ y c, env.cells.lookup y = some c → c ≠ C) (hO : ¬ O C)
    (b : ∀ b o, b ≠ C → h.get? b = some o → h'.get? b = some o) : InvC W k O₀ env ρ O m ad h' := by
  obtain ⟨oC, eC, nC⟩ := id hC
  have kk' : ∀ b o, k b = some o → h'.get? b = some o := fun a o e => b a o (fun q => by rw [q, kC] at e; cases e) (J.kk a o e)
  have cl : ∀ y c v, env.cells.lookup y = some c → h.IsCell c v → h'.IsCell c v := fun y c v hm e => by
    obtain ⟨o, e, d⟩ := e
    exact ⟨o, b c o (hcell y c hm) e, d⟩
  have nm : ∀ y v, Nm env m h y v → Nm env m h' y v := fun y v n => by
    rcases n with ⟨a, g⟩ | ⟨a, c, g, e⟩
    · exact .inl ⟨a, g⟩
    · exact .inr ⟨a, c, g, cl y c _ g e⟩
  refine { rd := ⟨J.rd.fn, J.rd.gl, J.rd.bi, J.rd.ns.at' fun o e => b _ o hL e, fun y dy hy => ?_, fun a p => ?_, fun a o e => kk' a o (J.kb a o e)⟩, sub := J.sub, kb := J.kb, kk := kk', kl := J.kl, kc := fun y c hm => ⟨(J.kc y c hm).1, ?_⟩, ap := J.ap, ow := fun y pl ds hy => ?_, okk := J.okk, inj := J.inj }
  · obtain ⟨w, n, r⟩ := J.rd.at_ y dy hy
    exact ⟨w, nm y w n, r.butNs eC nC b⟩
  · obtain ⟨o, e⟩ := J.rd.al a p
    exact ⟨o, b a o (fun q => hO (q ▸ p)) e⟩
  · obtain ⟨v, e⟩ := (J.kc y c hm).2
    exact ⟨v, cl y c v hm e⟩
  · obtain ⟨vs, n, p1, p2, p3, l, rs⟩ := J.ow y pl ds hy
    exact ⟨vs, nm y _ n, p1, p2, p3, plain_but hC b l, rs.butNs eC nC b⟩
/-! ### assignments -/
theorem ex_assign {x : Str} {xp pos : Pos} {value : Expr} (hx : Stb env x) (h : EV W A env ρ value fun d => P (.next ((x, .sh d) :: ρ))) (hs : swapsWith value (some (.Name x xp)) pos.line env = pure false := by rfl) : EX1 W A env ρ (.Assign [.Name x xp] value pos) P := by
  intro k O₀ s I Q E f
  obtain ⟨O, m, ad, I⟩ := I
  refine wpAny_Assign_Name (h s O m I.rd _ _ fun v d s₁ k₁ r p => ?_) hs
  refine st_core (I.keeps k₁.kp) hx fun h₂ t₂ m' T S => ?_
  exact f (.next _) _ _ p (k₁.mo.trans .of) ⟨rfl, O, m', ad, (I.keeps k₁.kp).stored S r⟩
theorem ex_assign_own {x : Str} {xp pos : Pos} {value : Expr} (hx : Stb env x) (h : EVo W A env ρ value fun ds => P (.next ((x, .own true ds) :: ρ))) (hs : swapsWith value (some (.Name x xp)) pos.line env = pure false := by rfl) : EX1 W A env ρ (.Assign [.Name x xp] value pos) P := by
  intro k O₀ s I Q E f
  obtain ⟨O, m, ad, I⟩ := I
  refine wpAny_Assign_Name (h s O m I.rd _ _ fun D vs ds s₁ hD k₁ hl r p => ?_) hs
  have J := I.withFresh hD k₁.kp (let ⟨n, e⟩ := hl; ⟨_, e⟩)
  refine st_core J hx fun h₂ t₂ m' T S => ?_
  exact f (.next _) _ _ p (k₁.mo.trans .of) ⟨rfl, _, m', _, J.storedOwn S (.inr rfl) (fun q => I.rd.fresh hD (I.sub _ q)) (I.kfresh hD) hl r (I.ne_fresh hD)⟩
/-- x = [.. for .. in ..], x a plain local -/
theorem ex_assign_comp {y : Str} {yp spos : Pos} {elt iter : Expr} {x : Str} {px : Pos} {ifs : List Expr} {scope : Scope} {pos : Pos} {cl : List (Str × Addr)} {fr : List Str}
    (hy : env.kindOf y = some .local) (ok : CompOk scope env cl x fr) (f : PyData → PyData) (pz : PyData → Bool)
    (hi : IT W A env ρ iter fun ds => (∀ d ∈ ds, ∀ C, TVs W A (ce scope cl env C) ((x, .sh d) :: frStore ρ fr) ifs (pz d) ∧ (pz d = true → EV W A (ce scope cl env C) ((x, .sh d) :: frStore ρ fr) elt fun y => y = f d)) ∧ P (.next ((y, .own true ((ds.filter pz).map f)) :: ρ)))
    (hsw : swapsWith (.ListComp elt [⟨.Name x px, iter, ifs, 0⟩] scope pos) (some (.Name y yp)) spos.line env = pure true := by rfl)
    (hs : ∀ x, foldedSetIterable iter env x = pure x := by intro _; rfl) : EX1 W A env ρ (.Assign [.Name y yp] (.ListComp elt [⟨.Name x px, iter, ifs, 0⟩] scope pos) spos) P := by
  intro k O₀ s I Q E q
  obtain ⟨O, m, ad, I⟩ := I
  rw [exec_Assign_Name_used _ _ _ _ hsw]
  refine wpAny_bind (wpAny_standAt (wpAny_bind ?_))
  show wpAny _ A (do let _ ← comprehension (.ListComp elt [⟨.Name x px, iter, ifs, 0⟩] scope pos) scope env _ (newList []) false (eval iter env) (some (assign (.Name y yp) env))) _ _ s
  refine wpAny_bind (wpAny_mono (comp_core (P := fun ds => P (.next ((y, .own true ds) :: ρ))) (Qc := fun _ s' => Q .next s') I.rd ok f pz hi (fun D C ys outs s₁ m₁ hD hC hDC k₁ hn hl r p => ?_) hs) (fun _ s' hq => wpAny_pure (wpAny_pure hq)) fun _ _ e => e)
  have J := I.withFresh hD k₁.kp (let ⟨n, e⟩ := hl; ⟨_, e⟩)
  show wpAny _ A (assign (.Name y yp) env (.ref D)) _ _ _
  refine wpAny_assign_Name (st_core J (.inl hy) fun h₂ t₂ m' T S => ?_)
  have J₂ := J.storedOwn S (.inr rfl) (fun q => I.rd.fresh hD (I.sub _ q)) (I.kfresh hD) hl r (I.ne_fresh hD)
  have hLC : env.locals ≠ C := fun q => by
    obtain ⟨o, _, _, e, _⟩ := I.rd.ns
    rw [q, hC] at e; cases e
  have hcC : ∀ y c, env.cells.lookup y = some c → c ≠ C := fun y c hm q => by
    obtain ⟨v, o, e, _⟩ := (I.kc y c hm).2
    rw [q, hC] at e; cases e
  have hTC : C ≠ T := fun q => by
    rcases S.wh with w | ⟨y, w⟩
    · exact hLC (by rw [q, w])
    · exact hcC y T w q.symm
  have hn₂ : h₂.Ns C m₁ := hn.at' fun o e => S.but C o hTC e
  refine ⟨m₁, hn₂, fun h₃ hs₃ => ?_⟩
  refine q (.next _) _ _ p (k₁.mo.trans (Mo.trans .of .heap)) ⟨rfl, _, m', _, J₂.butNs (ns_noSeq hn₂) (I.kfresh hC) hLC hcC (fun w => ?_) fun b o hb e => hs₃.extBut b o hb e⟩
  rcases w with w | w
  · exact I.rd.fresh hC w
  · exact hDC w.symm
end
end Mine

set_option maxRecDepth 100000
set_option autoImplicit false
set_option linter.unusedVariables false
namespace Mine
open PySem PySem.Calls PyProof.Rows PySem.Spec
section
variable {W : Wd} {A : Around} {env : Env} {ρ : Store} {P P' : Out → Prop} {k : Addr → Option Obj} {O₀ O : Addr → Prop} {m : Str → Option Value} {ad : Str → Addr} {h h' : Heap}
/-! ### forgetting and sharing -/
def SubS : Store → Store → Prop
  | [], _ => True
  | (x, sl) :: r, ρ => ρ.lookup x = some sl ∧ SubS r ρ
theorem SubS.get {ρ : Store} {x : Str} {sl : Slot} : ∀ {ρ' : Store}, SubS ρ' ρ → ρ'.lookup x = some sl → ρ.lookup x = some sl
  | [], _, e => by cases e
  | (y, s) :: r, q, e => by
    by_cases hxy : x = y
    · subst hxy; rw [lookup_self] at e; cases e; exact q.1
    · rw [lookup_ne hxy] at e; exact SubS.get q.2 e
theorem Inv.weak {ρ' : Store} {s : Shared} (q : SubS ρ' ρ) (I : Inv W k O₀ env ρ s) : Inv W k O₀ env ρ' s := by
  obtain ⟨O, m, ad, I⟩ := I
  exact ⟨O, m, ad, { rd := ⟨I.rd.fn, I.rd.gl, I.rd.bi, I.rd.ns, fun x d e => I.rd.at_ x d (q.get e), I.rd.al, I.rd.gr⟩, sub := I.sub, kb := I.kb, kk := I.kk, kl := I.kl, kc := I.kc, ap := I.ap, ow := fun x pl ds e => I.ow x pl ds (q.get e), okk := I.okk, inj := fun x y pl pe ds es a b => I.inj x y pl pe ds es (q.get a) (q.get b) }⟩
theorem ex_weak {ρ' : Store} {ss : List Stmt} (q : SubS ρ' ρ) (x : EX W A env ρ' ss P) : EX W A env ρ ss P := fun k O₀ s I Q E f => x k O₀ s (I.weak q) Q E f
theorem InvC.share {x : Str} {pl : Bool} {ds : List PyData} (I : InvC W k O₀ env ρ O m ad h) (hx : ρ.lookup x = some (.own pl ds)) : InvC W k O₀ env ((x, .sh (.list ds)) :: ρ) (fun a => O a ∧ a ≠ ad x) m ad h := by
  obtain ⟨vs, n, oO, nO, kn, l, rs⟩ := I.ow x pl ds hx
  refine { rd := ⟨I.rd.fn, I.rd.gl, I.rd.bi, I.rd.ns, fun y dy hy => ?_, fun a q => I.rd.al a q.1, I.rd.gr⟩, sub := fun a q => ⟨I.sub a q, fun e => nO (e ▸ q)⟩, kb := I.kb, kk := I.kk, kl := I.kl, kc := I.kc, ap := I.ap, ow := fun y pl' ds' hy => ?_, okk := fun a q => I.okk a q.1, inj := fun y z pl pe ds' es hy hz e => ?_ }
  · by_cases q : y = x
    · subst q
      rw [lookup_self] at hy; cases hy
      exact ⟨_, n, Rp.of_list l.isList (rs.weak fun a q => q.1) fun q => q.2 rfl⟩
    · rw [lookup_ne q] at hy
      obtain ⟨w, n', r'⟩ := I.rd.at_ y dy hy
      exact ⟨w, n', r'.weak fun a q => q.1⟩
  · by_cases q : y = x
    · subst q; rw [lookup_self] at hy; cases hy
    · rw [lookup_ne q] at hy
      obtain ⟨vs', n', a, b, c, l', rs'⟩ := I.ow y pl' ds' hy
      exact ⟨vs', n', ⟨a, fun e => q (I.inj y x _ _ _ _ hy hx e)⟩, b, c, l', rs'.weak fun a q => q.1⟩
  · by_cases q : y = x
    · subst q; rw [lookup_self] at hy; cases hy
    · by_cases q' : z = x
      · subst q'; rw [lookup_self] at hz; cases hz
      · rw [lookup_ne q] at hy; rw [lookup_ne q'] at hz
        exact I.inj y z _ _ _ _ hy hz e
theorem ex_share (x : Str) {pl : Bool} {ds : List PyData} {ss : List Stmt} (hx : ρ.lookup x = some (.own pl ds)) (e : EX W A env ((x, .sh (.list ds)) :: ρ) ss P) : EX W A env ρ ss P := by
  intro k O₀ s I Q E f
  obtain ⟨O, m, ad, I⟩ := I
  exact e k O₀ s ⟨_, m, ad, I.share hx⟩ Q E f
/-! ### changing an own list -/
theorem load_own {x : Str} {xp : Pos} {pl : Bool} {ds : List PyData} {s : Shared} {Q E : Value → Shared → Prop} (I : InvC W k O₀ env ρ O m ad s.heap) (hx : ρ.lookup x = some (.own pl ds)) (hd : (x == ("__debug__" : Str)) = false) (q : Q (.ref (ad x)) s) :
    wpAny (model W.prog W.w) A (eval (.Name x xp) env) Q E s := by
  obtain ⟨vs, n, _⟩ := I.ow x pl ds hx
  rcases n with ⟨a, b⟩ | ⟨a, c, b, g⟩
  · exact wpAny_Name (wpAny_loadName_local I.rd.fn a I.rd.ns b q) hd
  · exact wpAny_Name (wpAny_loadName_cell I.rd.fn a b g q) hd
theorem InvC.changed {x : Str} {pl pl' : Bool} {ds ds' : List PyData} {vs' : List Value} (I : InvC W k O₀ env ρ O m ad h) (hx : ρ.lookup x = some (.own pl ds)) (b : ∀ b o, b ≠ ad x → h.get? b = some o → h'.get? b = some o) (l' : LsB pl' h' (ad x) vs'.toArray)
    (r' : RpAll O h' vs' ds') : InvC W k O₀ env ((x, .own pl' ds') :: ρ) O m ad h' := by
  obtain ⟨vs, n, oO, nO, kn, l, rs⟩ := I.ow x pl ds hx
  obtain ⟨oa, ea, ca, na, da⟩ := l.isList
  have kk' : ∀ a o, k a = some o → h'.get? a = some o := fun a o e => b a o (fun q => by rw [q, kn] at e; cases e) (I.kk a o e)
  have hL : env.locals ≠ ad x := fun q => by
    obtain ⟨o, es, ep, e, d, _⟩ := I.rd.ns
    rw [q, ea] at e; cases e
    rw [da] at d; cases d
  have cl : ∀ y c v, env.cells.lookup y = some c → h.IsCell c v → h'.IsCell c v := fun y c v hm e => by
    obtain ⟨o, e, d⟩ := e
    exact ⟨o, b c o (fun q => by rw [q, ea] at e; cases e; rw [da] at d; cases d) e, d⟩
  have nm : ∀ y v, Nm env m h y v → Nm env m h' y v := fun y v n => by
    rcases n with ⟨a, g⟩ | ⟨a, c, g, e⟩
    · exact .inl ⟨a, g⟩
    · exact .inr ⟨a, c, g, cl y c _ g e⟩
  refine { rd := ⟨I.rd.fn, I.rd.gl, I.rd.bi, I.rd.ns.at' fun o e => b _ o hL e, fun y dy hy => ?_, fun a p => ?_, fun a o e => kk' a o (I.kb a o e)⟩, sub := I.sub, kb := I.kb, kk := kk', kl := I.kl, kc := fun y c hm => ⟨(I.kc y c hm).1, ?_⟩, ap := I.ap, ow := fun y pl₂ ds₂ hy => ?_, okk := I.okk, inj := fun y z plx pe dsx es hy hz e => ?_ }
  · by_cases q : y = x
    · subst q
      rw [lookup_self] at hy; cases hy
    · rw [lookup_ne q] at hy
      obtain ⟨w, n', r'⟩ := I.rd.at_ y dy hy
      exact ⟨w, nm y w n', r'.butOwn ea ca oO b⟩
  · by_cases q : a = ad x
    · obtain ⟨o, e, _⟩ := l'.isList
      exact ⟨o, by rw [q]; exact e⟩
    · obtain ⟨o, e⟩ := I.rd.al a p
      exact ⟨o, b a o q e⟩
  · obtain ⟨v, e⟩ := (I.kc y c hm).2
    exact ⟨v, cl y c v hm e⟩
  · by_cases q : y = x
    · subst q
      rw [lookup_self] at hy; cases hy
      exact ⟨vs', nm _ _ n, oO, nO, kn, l', r'⟩
    · rw [lookup_ne q] at hy
      obtain ⟨vs₂, n₂, a₂, b₂, c₂, l₂, rs₂⟩ := I.ow y pl₂ ds₂ hy
      exact ⟨vs₂, nm _ _ n₂, a₂, b₂, c₂, l₂.at fun o e _ => b _ o (fun z => q (I.inj y x _ _ _ _ hy hx z)) e, rs₂.butOwn ea ca oO b⟩
  · have lk : ∀ {w : Str} {pl : Bool} {es : List PyData}, List.lookup w ((x, Slot.own pl' ds') :: ρ) = some (.own pl es) → w = x ∨ ρ.lookup w = some (.own pl es) := by
      intro w pl es hw
      by_cases q : w = x
      · exact .inl q
      · rw [lookup_ne q] at hw; exact .inr hw
    rcases lk hy with hy' | hy' <;> rcases lk hz with hz' | hz'
    · rw [hy', hz']
    · exact I.inj y z _ _ _ _ (hy'.symm ▸ hx) hz' e
    · exact I.inj y z _ _ _ _ hy' (hz'.symm ▸ hx) e
    · exact I.inj y z _ _ _ _ hy' hz' e
theorem ex_setitem {x : Str} {xp sp pos : Pos} {pl : Bool} {ds : List PyData} {i value : Expr} (hx : ρ.lookup x = some (.own pl ds))
    (g : EV W A env ρ value fun d => EV W A env ρ i fun b => match b with | .int j => 0 ≤ j ∧ j < ds.length ∧ j < 2 ^ 63 ∧ P (.next ((x, .own false (ds.set j.toNat d)) :: ρ)) | _ => False)
    (hs : swapsWith value (some (.Subscript (.Name x xp) i sp)) pos.line env = pure false := by rfl) (hd : (x == ("__debug__" : Str)) = false := by decide) : EX1 W A env ρ (.Assign [.Subscript (.Name x xp) i sp] value pos) P := by
  intro k O₀ s I Q E f
  obtain ⟨O, m, ad, I⟩ := I
  refine wpAny_Assign_Subscript (g s O m I.rd _ _ fun v d s₁ k₁ r p => ?_) hs
  refine load_own (I.keeps k₁.kp) hx hd ?_
  refine p _ O m (I.keeps k₁.kp).rd _ _ fun iv b s₂ k₂ rb z => ?_
  cases b <;> try exact z.elim
  rename_i j
  obtain ⟨z1, z2, z3, p⟩ := z
  obtain ⟨u, rfl⟩ := rb.int_inv
  have J := (I.keeps k₁.kp).keeps k₂.kp
  obtain ⟨vs, n, oO, nO, kn, l, rs⟩ := J.ow x pl ds hx
  obtain ⟨oa, ea, ca, na, da⟩ := l.isList
  refine wpAny_setItem_list l.isList z1 z3 (by rw [List.size_toArray, rs.length]; exact z2) fun h₃ l₃ s₃ => ?_
  have b₃ : ∀ b o, b ≠ ad x → s₂.heap.get? b = some o → h₃.get? b = some o := fun b o hb e => s₃.extBut b o hb e
  refine f (.next _) _ _ p ((k₁.trans k₂).mo.trans .heap) ⟨rfl, O, m, ad, J.changed (pl' := false) (vs' := vs.set j.toNat v) hx b₃ ?_ ((rs.set j.toNat (r.keeps k₂.kp)).butOwn ea ca oO b₃)⟩
  have e3 : (vs.toArray.setIfInBounds j.toNat v) = (vs.set j.toNat v).toArray := by simp
  rw [e3] at l₃
  exact l₃
theorem ex_append {x : Str} {xp ap cp pos : Pos} {ds : List PyData} {e : Expr} (hx : ρ.lookup x = some (.own true ds)) (hn : ds.length ≤ 2 ^ 20)
    (g : EV W A env ρ e fun d => P (.next ((x, .own true (ds ++ [d])) :: ρ)))
    (he : starEach [e] env = [(false, eval e env)] := by rfl) (hd : (x == ("__debug__" : Str)) = false := by decide)
    (hm : ∃ pl : Sem Bool, eval (.Call (.Attribute (.Name x xp) "append" ap) [e] [] cp) env = (do
      let ov ← eval (.Name x xp) env
      standAt ap.atName
      let (f, first) ← holding [ov] (getMethod ov "append" pl)
      callWith cp f first (backTo cp (starEach [e] env)) []) := by exact ⟨_, rfl⟩)
    (hi : interactive env = false := by rfl) : EX1 W A env ρ (.Expr (.Call (.Attribute (.Name x xp) "append" ap) [e] [] cp) pos) P := by
  intro k O₀ s I Q E f
  obtain ⟨O, m, ad, I⟩ := I
  refine wpAny_Expr ?_ hi rfl
  obtain ⟨plb, hm⟩ := hm
  refine MethodCall_ (pl := plb) ?_ hm
  refine load_own I hx hd ?_
  obtain ⟨vs, n, oO, nO, kn, l, rs⟩ := I.ow x true ds hx
  obtain ⟨n₀, e₀⟩ := id l
  refine getMethod_list_append e₀ rfl rfl ?_
  rw [he]
  refine callWith_builtin rfl (evalArgs_plain (spliced_cons (g s O m I.rd _ _ fun v d s₁ k₁ r p => spliced_nil ?_)))
  have J := I.keeps k₁.kp
  obtain ⟨vs, n, oO, nO, kn, l, rs⟩ := J.ow x true ds hx
  obtain ⟨oa, ea, ca, na, da⟩ := LsB.isList l
  refine wpAny_list_append_plain l (fun h₃ l₃ s₃ => ?_) (by rw [List.size_toArray, rs.length, sizeLine_eq]; omega)
  have b₃ : ∀ b o, b ≠ ad x → s₁.heap.get? b = some o → h₃.get? b = some o := fun b o hb e => s₃.extBut b o hb e
  have e3 : vs.toArray.push v = (vs ++ [v]).toArray := by simp
  rw [e3] at l₃
  exact f (.next _) _ _ p (k₁.mo.trans .heap) ⟨rfl, O, m, ad, J.changed (pl' := true) (vs' := vs ++ [v]) hx b₃ l₃ ((rs.append (.cons r .nil)).butOwn ea ca oO b₃)⟩
/-! ### several names at once -/
theorem rpAll_two {O : Addr → Prop} {h : Heap} {vs : List Value} {d₁ d₂ : PyData} (r : RpAll O h vs [d₁, d₂]) : ∃ v₁ v₂, vs = [v₁, v₂] ∧ Rp O h v₁ d₁ ∧ Rp O h v₂ d₂ := by
  match vs, r with
  | [], ⟨_, _, r, _⟩ => cases r
  | [_], r => obtain ⟨_, _, q, _⟩ := r.tail; cases q
  | [v₁, v₂], r => exact ⟨v₁, v₂, rfl, r.head, r.tail.head⟩
  | _ :: _ :: _ :: _, r => obtain ⟨_, _, q, _⟩ := r.tail.tail; cases q
/-- a, b = (x, y): the stores go from behind -/
theorem ex_pair_swapped {a b : Str} {ap bp tp vp pos : Pos} {k1 k2 : Nat} {x y : Expr} (hh : A.handled = none) (ha : Stb env a) (hb : Stb env b)
    (g : EVs W A env ρ [x, y] fun ds => match ds with | [d₁, d₂] => P (.next ((a, .sh d₁) :: (b, .sh d₂) :: ρ)) | _ => False)
    (hs : swapsWithSole [.Tuple [.Name a ap, .Name b bp] k1 tp] (.Tuple [x, y] k2 vp) pos.line env = pure false := by rfl)
    (hw : swappedStores [.Tuple [.Name a ap, .Name b bp] k1 tp] (.Tuple [x, y] k2 vp) env = pure (some [a, b]) := by rfl) :
    EX1 W A env ρ (.Assign [.Tuple [.Name a ap, .Name b bp] k1 tp] (.Tuple [x, y] k2 vp) pos) P := by
  intro k O₀ s I Q E f
  obtain ⟨O, m, ad, I⟩ := I
  refine Assign_Tuple_swapped (names := [a, b]) ?_ hs hw
  refine wpAny_Tuple (g s O m I.rd vp _ _ fun vs ds s₁ k₁ r p => ?_)
  match ds, p with
  | [d₁, d₂], p =>
  obtain ⟨v₁, v₂, rfl, r₁, r₂⟩ := rpAll_two r
  refine ⟨by rw [sizeLine_eq]; show 2 ≤ 16777216; decide, ?_⟩
  refine unpackItems_tuple (items := #[v₁, v₂]) hh ⟨_, Heap.get?_push_size _ rfl, rfl, _, rfl⟩ fun h₂ e₂ => ?_
  have k₂ : Kp s₁.heap h₂ := fun b o e => e₂ b o (fun q => by
    have lt := Heap.lt_size e
    have q' : b = (s₁.heap.push _).objs.size := q
    rw [q', Heap.size_push] at lt
    exact absurd lt (Nat.not_lt.mpr (Nat.le_succ _))) (Heap.get?_push_of_some _ e)
  have J := (I.keeps k₁.kp).keeps k₂
  show wpAny _ A (assignInOrder [bindName env b, bindName env a] [v₂, v₁]) _ _ _
  unfold assignInOrder
  refine wpAny_bind (wpAny_holding (bindName_ (st_core J hb fun h₃ t₃ m₃ T S => ?_)))
  have J₃ := J.stored S (r₂.keeps k₂)
  have r₁' : Rp O h₃ v₁ d₁ := by
    obtain ⟨oT, hT, nT⟩ := S.nos
    exact (r₁.keeps k₂).butNs hT nT S.but
  unfold assignInOrder
  refine wpAny_bind (wpAny_holding (bindName_ (st_core J₃ ha fun h₄ t₄ m₄ T₄ S₄ => ?_)))
  unfold assignInOrder
  exact wpAny_pure (f (.next _) _ _ p (k₁.mo.trans (Mo.trans .heap (Mo.trans .of .of))) ⟨rfl, O, m₄, ad, J₃.stored S₄ r₁'⟩)
/-- a, b = e, e no written tuple -/
theorem ex_pair {a b : Str} {ap bp tp pos : Pos} {k1 : Nat} {e : Expr} (hh : A.handled = none) (ha : Stb env a) (hb : Stb env b)
    (g : EV W A env ρ e fun d => match d with | .tuple [d₁, d₂] => P (.next ((b, .sh d₂) :: (a, .sh d₁) :: ρ)) | _ => False)
    (hs : swapsWithSole [.Tuple [.Name a ap, .Name b bp] k1 tp] e pos.line env = pure false := by rfl)
    (hw : swappedStores [.Tuple [.Name a ap, .Name b bp] k1 tp] e env = pure none := by rfl) :
    EX1 W A env ρ (.Assign [.Tuple [.Name a ap, .Name b bp] k1 tp] e pos) P := by
  intro k O₀ s I Q E f
  obtain ⟨O, m, ad, I⟩ := I
  refine Assign_Tuple (g s O m I.rd _ _ fun v d s₁ k₁ r p => ?_) hs hw
  match d, r, p with
  | .tuple [d₁, d₂], r, p =>
  obtain ⟨t, vs, rfl, ht, rs⟩ := r.tuple_inv
  obtain ⟨v₁, v₂, rfl, r₁, r₂⟩ := rpAll_two rs
  show wpAny _ A (do standAt tp; unpack (.ref t) (assignEach [.Name a ap, .Name b bp] env)) _ _ _
  refine wpAny_bind (wpAny_standAt ?_)
  show wpAny _ A (do assignInOrder [assign (.Name a ap) env, assign (.Name b bp) env] (← holding [Value.ref t] (unpackItems (.ref t) 2 none))) _ _ _
  refine wpAny_bind (wpAny_holding (unpackItems_tuple (items := #[v₁, v₂]) hh ht fun h₂ e₂ => ?_))
  have k₂ : Kp s₁.heap h₂ := fun b o e => e₂ b o (Nat.ne_of_lt (Heap.lt_size e)) e
  have J := (I.keeps k₁.kp).keeps k₂
  show wpAny _ A (assignInOrder [assign (.Name a ap) env, assign (.Name b bp) env] [v₁, v₂]) _ _ _
  unfold assignInOrder
  refine wpAny_bind (wpAny_holding (wpAny_assign_Name (st_core J ha fun h₃ t₃ m₃ T S => ?_)))
  have J₃ := J.stored S (r₁.keeps k₂)
  have r₂' : Rp O h₃ v₂ d₂ := by
    obtain ⟨oT, hT, nT⟩ := S.nos
    exact (r₂.keeps k₂).butNs hT nT S.but
  unfold assignInOrder
  refine wpAny_bind (wpAny_holding (wpAny_assign_Name (st_core J₃ hb fun h₄ t₄ m₄ T₄ S₄ => ?_)))
  unfold assignInOrder
  exact wpAny_pure (f (.next _) _ _ p (k₁.mo.trans (Mo.trans .heap (Mo.trans .of .of))) ⟨rfl, O, m₄, ad, J₃.stored S₄ r₂'⟩)
end
end Mine

set_option maxRecDepth 100000
set_option autoImplicit false
set_option linter.unusedVariables false
namespace Mine
open PySem PySem.Calls PyProof.Rows PySem.Spec
/-- iterating over ints, by objects that are all new -/
def ITn (W : Wd) (A : Around) (env : Env) (ρ : Store) (iter : Expr) (P : List PyData → Prop) : Prop :=
  ∀ (s : Shared) (O : Addr → Prop) (m : Str → Option Value), Rd W env ρ O m s.heap → ∀ (K E : Value → Shared → Prop),
    (∀ I fp ds Pv St s', Mv s s' → (∀ b ∈ fp, s.heap.get? b = none) → Walks W.prog W.w A I fp [I] ds.length Pv St → St 0 s'.heap → (∀ i h, St i h → ∀ b ∈ fp, ∃ o, h.get? b = some o) → (∀ i h, St i h → ∃ o, h.get? I = some o ∧ ∀ vs k, o.data ≠ .seq vs k) →
      (∀ i v d, ds[i]? = some d → Pv i v → ∀ O h, Rp O h v d) → P ds → K (.ref I) s') →
    wpAny (model W.prog W.w) A (eval iter env) (fun x s₁ => wpAny (model W.prog W.w) A (pyIter x) K E s₁) E s
section
variable {W : Wd} {A : Around} {env : Env} {ρ : Store} {P P' : Out → Prop} {k : Addr → Option Obj} {O₀ O : Addr → Prop} {m : Str → Option Value} {ad : Str → Addr} {h h' : Heap}
theorem itn_core {a b : Int} {t u v : Tok} {s s₁ : Shared} {r : Addr} {P : List PyData → Prop} {K E : Value → Shared → Prop} (hh : A.handled = none) (k₁ : Mv s s₁) (hr : IsRange s₁.heap r a b 1 t u v) (ha : -(2 ^ 20) ≤ a) (hb : b ≤ 2 ^ 20) (hb' : -(2 ^ 60) ≤ b) (ha' : a ≤ 2 ^ 20)
    (p : P (rangeL a b))
    (f : ∀ I fp ds Pv St s', Mv s s' → (∀ b ∈ fp, s.heap.get? b = none) → Walks W.prog W.w A I fp [I] ds.length Pv St → St 0 s'.heap → (∀ i h, St i h → ∀ b ∈ fp, ∃ o, h.get? b = some o) → (∀ i h, St i h → ∃ o, h.get? I = some o ∧ ∀ vs k, o.data ≠ .seq vs k) →
      (∀ i v d, ds[i]? = some d → Pv i v → ∀ O h, Rp O h v d) → P ds → K (.ref I) s') :
    wpAny (model W.prog W.w) A (pyIter (.ref r)) K E s₁ := by
  refine wpAny_pyIter_range hr (small_one (by omega) (by omega) (by omega) (by omega)) ?_
  have Wk := Walks.range (prog := W.prog) (w := W.w) hh s₁.heap.objs.size a 1 (b - a).toNat
  rw [← rangeL_length] at Wk
  refine f s₁.heap.objs.size _ (rangeL a b) _ _ _ (k₁.trans .new) (fun b hb => by rw [List.mem_singleton.mp hb]; exact k₁.kp.none (get_none_of_size _)) Wk ?_ (fun i h st b hb => by rw [List.mem_singleton.mp hb]; exact ⟨_, st⟩) (fun i h st => ⟨_, st, fun vs k q => by cases q⟩) (fun i v d hd hv O h => range_items hd hv) p
  show Heap.get? _ _ = some _
  rw [Heap.get?_push_size _ rfl]
  have e : Builtin.Range.rangeSize a b 1 = ((rangeL a b).length : Int) := by
    rw [rangeL_length, rangeSize_one]; split <;> omega
  rw [e]
  simp
theorem itn_range1 {gp pos : Pos} {e : Expr} {P : List PyData → Prop} (hh : A.handled = none) (hg : W.Gl "range" (.type "range")) (h : EV W A env ρ e fun d => match d with | .int n => -(2 ^ 20) ≤ n ∧ n ≤ 2 ^ 20 ∧ P (rangeL 0 n) | _ => False)
    (hk : env.kindOf "range" = some .globalImplicit := by rfl) (he : starEach [e] env = [(false, eval e env)] := by rfl) : ITn W A env ρ (.Call (.Name "range" gp) [e] [] pos) P := by
  intro s O m R K E f
  refine wpAny_Call_NameR (gname R hg hk ?_ (by decide))
  rw [he]
  refine PySem.callWith_type rfl (evalArgs_plain (spliced_cons (h s O m R _ _ fun v d s₁ k₁ r p => spliced_nil ?_)))
  cases d <;> try exact p.elim
  obtain ⟨t, rfl⟩ := r.int_inv
  refine call_range_1 ?_
  exact itn_core (s := s) hh (k₁.trans (.of (Kp.push _ _))) (IsRange.new ..) (by decide) p.2.1 (by have := p.1; omega) (by decide) p.2.2 f
theorem itn_range2 {gp pos : Pos} {e e' : Expr} {P : List PyData → Prop} (hh : A.handled = none) (hg : W.Gl "range" (.type "range")) (h : EV W A env ρ e fun d => EV W A env ρ e' fun d' => match d, d' with | .int a, .int b => 0 ≤ a ∧ a ≤ 2 ^ 20 ∧ -(2 ^ 20) ≤ b ∧ b ≤ 2 ^ 20 ∧ P (rangeL a b) | _, _ => False)
    (hk : env.kindOf "range" = some .globalImplicit := by rfl) (he : starEach [e, e'] env = [(false, eval e env), (false, eval e' env)] := by rfl) : ITn W A env ρ (.Call (.Name "range" gp) [e, e'] [] pos) P := by
  intro s O m R K E f
  refine wpAny_Call_NameR (gname R hg hk ?_ (by decide))
  rw [he]
  refine PySem.callWith_type rfl (evalArgs_plain (spliced_cons (h s O m R _ _ fun v d s₁ k₁ r p => spliced_cons (p _ O m (R.keeps k₁.kp) _ _ fun v' d' s₂ k₂ r' z => spliced_nil ?_))))
  cases d <;> cases d' <;> try exact z.elim
  obtain ⟨t, rfl⟩ := r.int_inv
  obtain ⟨u, rfl⟩ := r'.int_inv
  dsimp only at z
  refine call_range_2 ?_
  exact itn_core (s := s) hh ((k₁.trans k₂).trans (.of (Kp.push _ _))) (IsRange.new ..) (by omega) (by omega) (by omega) (by omega) z.2.2.2.2 f
/-- a written tuple of ints -/
theorem itn_tuple {es : List Expr} {kk : Nat} {pos : Pos} {P : List PyData → Prop} {is : List Int} (hh : A.handled = none) (h : EVs W A env ρ es fun ds => ds = is.map .int ∧ is.length ≤ 100 ∧ P ds) : ITn W A env ρ (.Tuple es kk pos) P := by
  intro s O m R K E f
  refine wpAny_Tuple (h s O m R pos _ _ fun vs ds s₁ k₁ r p => ?_)
  obtain ⟨rfl, hn, p⟩ := p
  have hlen : vs.length = is.length := by rw [r.length, List.length_map]
  refine ⟨by rw [hlen, sizeLine_eq]; omega, ?_⟩
  have ht : (s₁.heap.push { cls := .type "tuple", data := .seq vs.toArray }).IsTuple s₁.heap.objs.size vs.toArray := ⟨_, Heap.get?_push_size _ rfl, rfl, _, rfl⟩
  refine wpAny_pyIter_tuple ht ?_
  have hsz : (s₁.heap.push { cls := .type "tuple", data := .seq vs.toArray }).objs.size = s₁.heap.objs.size + 1 := Heap.size_push ..
  have Wk := Walks.tuple (prog := W.prog) (w := W.w) hh (s₁.heap.push { cls := .type "tuple", data := .seq vs.toArray }).objs.size s₁.heap.objs.size (by rw [hsz]; exact Nat.ne_of_lt (Nat.lt_succ_self _)) vs.toArray
  have en : vs.toArray.size = (is.map PyData.int).length := by rw [List.size_toArray, hlen, List.length_map]
  rw [en] at Wk
  have k₂ := Kp.push s₁.heap { cls := .type "tuple", data := .seq vs.toArray }
  refine f _ _ (is.map .int) _ _ _ (k₁.trans (Mv.trans .new .new)) ?_ Wk ⟨⟨_, Heap.get?_push_size _ rfl, rfl, rfl⟩, ht.push _⟩ ?_ ?_ ?_ p
  · intro b hb
    rcases List.mem_cons.mp hb with rfl | hb
    · exact (k₁.kp.trans k₂).none (get_none_of_size _)
    · rw [List.mem_singleton.mp hb]; exact k₁.kp.none (get_none_of_size _)
  · intro i h st b hb
    rcases List.mem_cons.mp hb with rfl | hb
    · obtain ⟨⟨o, e, _⟩, _⟩ := st; exact ⟨o, e⟩
    · rw [List.mem_singleton.mp hb]; obtain ⟨_, o, e, _⟩ := st; exact ⟨o, e⟩
  · intro i h st
    obtain ⟨⟨o, e, _, d⟩, _⟩ := st
    exact ⟨o, e, fun vs k q => by rw [d] at q; cases q⟩
  · intro i v d hd hv O' h'
    obtain ⟨v', hv', rv⟩ := r.get hd
    have hv2 : vs[i]? = some v := by simpa using hv
    rw [hv2] at hv'; cases hv'
    rw [List.getElem?_map] at hd
    obtain ⟨j, _, rfl⟩ := Option.map_eq_some_iff.mp hd
    obtain ⟨t, rfl⟩ := rv.int_inv
    exact .int _ _
/-! ### for -/
theorem InvC.withK {fp : List Addr} (I : InvC W k O₀ env ρ O m ad h) (hL : env.locals ∉ fp) (hc : ∀ y c, env.cells.lookup y = some c → c ∉ fp) (hO : ∀ a ∈ fp, ¬ O a) (hk : ∀ a ∈ fp, k a = none) :
    InvC W (fun b => if b ∈ fp then h.get? b else k b) O₀ env ρ O m ad h where
  rd := I.rd
  sub := I.sub
  kb := fun b o e => by
    have q := I.kb b o e
    by_cases hb : b ∈ fp
    · rw [hk b hb] at q; cases q
    · simp only [if_neg hb]; exact q
  kk := fun b o e => by
    by_cases hb : b ∈ fp
    · simp only [if_pos hb] at e; exact e
    · simp only [if_neg hb] at e; exact I.kk b o e
  kl := by simp only [if_neg hL]; exact I.kl
  kc := fun x c hm => by simp only [if_neg (hc x c hm)]; exact I.kc x c hm
  ap := I.ap
  ow := fun x pl ds e => by
    obtain ⟨vs, a, b, c, d, l, r⟩ := I.ow x pl ds e
    exact ⟨vs, a, b, c, by simp only [if_neg fun q => hO _ q b]; exact d, l, r⟩
  okk := fun a q => by simp only [if_neg fun z => hO _ z q]; exact I.okk a q
  inj := I.inj
theorem InvC.backK {fp : List Addr} {h₁ : Heap} (I : InvC W (fun b => if b ∈ fp then h₁.get? b else k b) O₀ env ρ O m ad h) (hk : ∀ a ∈ fp, k a = none) (hkb : ∀ b o, W.base.get? b = some o → k b = some o) : InvC W k O₀ env ρ O m ad h where
  rd := I.rd
  sub := I.sub
  kb := hkb
  kk := fun b o e => I.kk b o (by
    by_cases hb : b ∈ fp
    · rw [hk b hb] at e; cases e
    · simp only [if_neg hb]; exact e)
  kl := by
    by_cases hb : env.locals ∈ fp
    · exact hk _ hb
    · have := I.kl; simp only [if_neg hb] at this; exact this
  kc := fun x c hm => by
    refine ⟨?_, (I.kc x c hm).2⟩
    by_cases hb : c ∈ fp
    · exact hk _ hb
    · have := (I.kc x c hm).1; simp only [if_neg hb] at this; exact this
  ap := I.ap
  ow := fun x pl ds e => by
    obtain ⟨vs, a, b, c, d, l, r⟩ := I.ow x pl ds e
    refine ⟨vs, a, b, c, ?_, l, r⟩
    by_cases hb : ad x ∈ fp
    · exact hk _ hb
    · simp only [if_neg hb] at d; exact d
  okk := fun a q => by
    by_cases hb : a ∈ fp
    · exact .inr (hk _ hb)
    · have := I.okk a q; simp only [if_neg hb] at this; exact this
  inj := I.inj
/-- what a turn may come to -/
def Turn (P : Out → Prop) (J : Store → Prop) : Out → Prop
  | .next ρ => J ρ
  | .cont ρ => J ρ
  | .brk ρ => P (.next ρ)
  | .ret d => P (.ret d)
  | .reto ds => P (.reto ds)
theorem ex_for {x : Str} {xp pos : Pos} {iter : Expr} {body : List Stmt} (hx : Stb env x)
    (hi : ITn W A env ρ iter fun ds => ∃ J : Nat → Store → Prop, J 0 ρ ∧ (∀ i d ρ', ds[i]? = some d → J i ρ' → EX W A env ((x, .sh d) :: ρ') body (Turn P (J (i + 1)))) ∧ (∀ ρ', J ds.length ρ' → P (.next ρ')))
    (hs : ∀ x, foldedSetIterable iter env x = pure x := by intro _; rfl) : EX1 W A env ρ (.For (.Name x xp) iter body [] pos) P := by
  intro k O₀ s I Q E f
  obtain ⟨O, m, ad, I⟩ := I
  refine wpAny_For (hi s O m I.rd _ _ fun It fp ds Pv St s₁ k₁ hfp Wk st hEx hIs hit p => ?_) hs
  obtain ⟨J, j0, turn, done⟩ := p
  have kfp : ∀ a ∈ fp, k a = none := fun a ha => I.kfresh (hfp a ha)
  have Lfp : env.locals ∉ fp := fun q => by
    obtain ⟨o, _, _, e, _⟩ := I.rd.ns
    rw [hfp _ q] at e; cases e
  have cfp : ∀ y c, env.cells.lookup y = some c → c ∉ fp := fun y c hm q => by
    obtain ⟨v, o, e, _⟩ := (I.kc y c hm).2
    rw [hfp _ q] at e; cases e
  have O₀fp : ∀ a ∈ fp, ¬ O₀ a := fun a ha q => by
    obtain ⟨o, e⟩ := I.rd.al a (I.sub a q)
    rw [hfp _ ha] at e; cases e
  have Ifp : It ∈ fp := Wk.sub It List.mem_cons_self
  refine codeAny_forLoop (fun n s' => ∃ i ρ' O m ad, Mo s s' ∧ i ≤ ds.length ∧ n = ds.length + 1 - i ∧ St i s'.heap ∧ J i ρ' ∧ InvC W k O₀ env ρ' O m ad s'.heap ∧ ∀ a ∈ fp, ¬ O a) ?_ (ds.length + 1)
    ⟨0, ρ, O, m, ad, k₁.mo, Nat.zero_le _, rfl, st, j0, I.keeps k₁.kp, fun a ha q => I.rd.fresh (hfp a ha) q⟩
  rintro n s' ⟨i, ρ', O', m', ad', sm, hi', rfl, hst', hj, I', O'fp⟩
  obtain ⟨oI, eI, nI⟩ := hIs i s'.heap hst'
  by_cases hlt : i < ds.length
  · have hd : ds[i]? = some ds[i] := List.getElem?_eq_getElem hlt
    generalize ds[i] = d at hd
    refine Wk.item i _ _ _ hlt hst' fun v h₂ t₂ hPv hst₂ hk₂ => ?_
    have b₂ : ∀ b o, b ≠ It → s'.heap.get? b = some o → h₂.get? b = some o := fun b o hb e => hk₂ b o (by simpa using hb) e
    have I₂ := I'.butNs ⟨oI, eI, nI⟩ (kfp It Ifp) (fun q => Lfp (q ▸ Ifp)) (fun y c hm q => cfp y c hm (q ▸ Ifp)) (O'fp It Ifp) b₂
    have I₂' := I₂.withK Lfp cfp O'fp kfp
    refine wpAny_assign_Name (st_core I₂' hx fun h₃ t₃ m₃ T S => ?_)
    have I₃ := I₂'.stored S (hit i v d hd hPv O' h₂)
    have st₃ : St (i + 1) h₃ := Wk.frame _ _ _ hst₂ fun b hb o e => S.but b o (fun q => by
      rcases S.wh with w | ⟨y, w⟩
      · exact Lfp (w ▸ q ▸ hb)
      · exact cfp y T w (q ▸ hb)) e
    have toK : ∀ ρ'' (s'' : Shared), Inv W (fun b => if b ∈ fp then h₂.get? b else k b) O₀ env ρ'' s'' → St (i + 1) s''.heap ∧ ∃ O m ad, InvC W k O₀ env ρ'' O m ad s''.heap ∧ ∀ a ∈ fp, ¬ O a := by
      rintro ρ'' s'' ⟨O₄, m₄, ad₄, I₄⟩
      refine ⟨Wk.frame _ _ _ hst₂ fun b hb o e => I₄.kk b o (by simp only [if_pos hb]; exact e), O₄, m₄, ad₄, I₄.backK kfp I.kb, fun a ha q => ?_⟩
      rcases I₄.okk a q with z | z
      · exact O₀fp a ha z
      · simp only [if_pos ha] at z
        obtain ⟨o, e⟩ := hEx (i + 1) h₂ hst₂ a ha
        rw [e] at z; cases z
    have kret : ∀ s'' : Shared, (∀ b o, (fun b => if b ∈ fp then h₂.get? b else k b) b = some o → s''.heap.get? b = some o) → ∀ b o, k b = some o → s''.heap.get? b = some o := fun s'' q b o e => q b o (by
      have hb : b ∉ fp := fun z => by rw [kfp b z] at e; cases e
      simp only [if_neg hb]; exact e)
    refine turn i d ρ' hd hj _ O₀ _ ⟨O', m₃, ad', I₃⟩ _ _ fun o fl s₄ p sm₄ g => ?_
    have smm : Mo s s₄ := (sm.trans (Mo.trans .of .of)).trans sm₄
    cases o with
    | next ρ'' =>
      obtain ⟨rfl, I₄⟩ := g
      obtain ⟨st₄, O₄, m₄, ad₄, I₄, z⟩ := toK _ _ I₄
      exact ⟨ds.length + 1 - (i + 1), by omega, i + 1, ρ'', O₄, m₄, ad₄, smm, hlt, rfl, st₄, p, I₄, z⟩
    | cont ρ'' =>
      obtain ⟨rfl, I₄⟩ := g
      obtain ⟨st₄, O₄, m₄, ad₄, I₄, z⟩ := toK _ _ I₄
      exact ⟨ds.length + 1 - (i + 1), by omega, i + 1, ρ'', O₄, m₄, ad₄, smm, hlt, rfl, st₄, p, I₄, z⟩
    | brk ρ'' =>
      obtain ⟨rfl, I₄⟩ := g
      obtain ⟨st₄, O₄, m₄, ad₄, I₄, z⟩ := toK _ _ I₄
      exact f (.next ρ'') _ _ p smm ⟨rfl, O₄, m₄, ad₄, I₄⟩
    | ret d =>
      obtain ⟨v, rfl, g1, g2⟩ := g
      exact f (.ret d) _ _ p smm ⟨v, rfl, kret _ g1, g2⟩
    | reto es =>
      obtain ⟨D, vs, rfl, g1, g2, g3⟩ := g
      refine f (.reto es) _ _ p smm ⟨D, vs, rfl, kret _ g1, ?_, g3⟩
      by_cases hb : D ∈ fp
      · exact kfp D hb
      · simp only [if_neg hb] at g2; exact g2
  · obtain rfl : i = ds.length := Nat.le_antisymm hi' (Nat.not_lt.mp hlt)
    refine Wk.done _ _ _ hst' fun h₂ t₂ hk₂ => ?_
    have b₂ : ∀ b o, b ≠ It → s'.heap.get? b = some o → h₂.get? b = some o := fun b o hb e => hk₂ b o (by simpa using hb) e
    have I₂ := I'.butNs ⟨oI, eI, nI⟩ (kfp It Ifp) (fun q => Lfp (q ▸ Ifp)) (fun y c hm q => cfp y c hm (q ▸ Ifp)) (O'fp It Ifp) b₂
    exact wpAny_execs_nil (f (.next ρ') _ _ (done ρ' hj) (sm.trans .of) ⟨rfl, O', m', ad', I₂⟩)
/-! ### entering a def -/
theorem bindL_miss {kd : Str → Option NameKind} {x : Str} : ∀ {bs : List (Str × Value)} {m : Str → Option Value}, x ∉ bs.map (·.1) → bindL kd bs m x = m x
  | [], _, _ => rfl
  | (n, v) :: r, m, hx => by
    unfold bindL
    rw [bindL_miss (fun q => hx (List.mem_cons_of_mem _ q))]
    have hne : x ≠ n := fun q => hx (by rw [q]; exact List.mem_cons_self)
    split
    · simp [hne]
    · rfl
theorem bindC_miss {kd : Str → Option NameKind} {x : Str} : ∀ {bs : List (Str × Value)} {m : Str → Option Value}, x ∉ bs.map (·.1) → bindC kd bs m x = m x
  | [], _, _ => rfl
  | (n, v) :: r, m, hx => by
    unfold bindC
    rw [bindC_miss (fun q => hx (List.mem_cons_of_mem _ q))]
    have hne : x ≠ n := fun q => hx (by rw [q]; exact List.mem_cons_self)
    split
    · rfl
    · simp [hne]
theorem bindL_hit {kd : Str → Option NameKind} {x : Str} {v : Value} (hk : kd x = some .local) : ∀ {bs : List (Str × Value)} {m : Str → Option Value}, (bs.map (·.1)).Nodup → bs.lookup x = some v → bindL kd bs m x = some v
  | [], _, _, h => by cases h
  | (n, w) :: r, m, hn, h => by
    have hn' := List.nodup_cons.mp hn
    unfold bindL
    by_cases q : x = n
    · subst q
      rw [List.lookup_cons, beq_self_eq_true] at h; cases h
      rw [bindL_miss hn'.1, if_pos hk]; simp
    · rw [List.lookup_cons, beq_eq_false_iff_ne.mpr q] at h
      exact bindL_hit hk hn'.2 h
theorem bindC_hit {kd : Str → Option NameKind} {x : Str} {v : Value} (hk : kd x = some .cell) : ∀ {bs : List (Str × Value)} {m : Str → Option Value}, (bs.map (·.1)).Nodup → bs.lookup x = some v → bindC kd bs m x = some v
  | [], _, _, h => by cases h
  | (n, w) :: r, m, hn, h => by
    have hn' := List.nodup_cons.mp hn
    unfold bindC
    by_cases q : x = n
    · subst q
      rw [List.lookup_cons, beq_self_eq_true] at h; cases h
      rw [bindC_miss hn'.1, if_neg (by rw [hk]; decide)]; simp
    · rw [List.lookup_cons, beq_eq_false_iff_ne.mpr q] at h
      exact bindC_hit hk hn'.2 h
theorem cells_some {x : Str} : ∀ (names : List (Str × NameKind)) (n : Nat) (acc : List (Str × Addr)), names.lookup x = some .cell ∨ (acc.lookup x).isSome = true → ((cellsFrom n names acc).lookup x).isSome = true
  | [], _, _, h => h.elim (fun e => by cases e) id
  | (y, kd) :: r, n, acc, h => by
    unfold cellsFrom
    by_cases hk : (kd == NameKind.cell) = true
    · rw [if_pos hk]
      refine cells_some r _ _ ?_
      by_cases q : x = y
      · subst q; exact .inr (by rw [List.lookup_cons, beq_self_eq_true]; rfl)
      · rw [List.lookup_cons, beq_eq_false_iff_ne.mpr q] at h
        rw [List.lookup_cons, beq_eq_false_iff_ne.mpr q]
        exact h
    · rw [if_neg hk]
      refine cells_some r _ _ ?_
      by_cases q : x = y
      · subst q
        rw [List.lookup_cons, beq_self_eq_true] at h
        rcases h with h | h
        · cases h; exact absurd rfl hk
        · exact .inr h
      · rw [List.lookup_cons, beq_eq_false_iff_ne.mpr q] at h
        exact h
structure DefOk (fd : FuncData) (body : List Stmt) (names : List Str) : Prop where
  body_ : fd.body = .stmts body
  clos : fd.closure = []
  gl : fd.globals = mainGlobals
  bi : fd.builtins = builtinsNs
  co : fd.scope.isCoroutine = false
  gen : fd.scope.isGenerator = false
  kind : fd.scope.kind = .function
  bind : ∀ vs, vs.length = names.length → bindArgs fd ⟨vs, []⟩ = pure (names.zip vs)
  nd : names.Nodup
  kn : ∀ x ∈ names, fd.scope.names.lookup x = some .local ∨ fd.scope.names.lookup x = some .cell
theorem zip_lookup {O : Addr → Prop} {h : Heap} {x : Str} {sl : Slot} : ∀ {names : List Str} {vs : List Value} {ds : List PyData}, RpAll O h vs ds → (names.zip (ds.map Slot.sh)).lookup x = some sl → ∃ v d, sl = .sh d ∧ (names.zip vs).lookup x = some v ∧ Rp O h v d ∧ x ∈ names
  | [], _, _, _, e => by cases e
  | _ :: _, [], [], _, e => by cases e
  | _ :: _, [], _ :: _, ⟨_, _, r, _⟩, _ => by cases r
  | _ :: _, _ :: _, [], ⟨_, _, r, _⟩, _ => by cases r
  | n :: ns, v :: vs, d :: ds, r, e => by
    rw [List.map_cons, List.zip_cons_cons] at e
    by_cases q : x = n
    · subst q
      rw [lookup_self] at e; cases e
      exact ⟨v, d, rfl, by rw [List.zip_cons_cons, List.lookup_cons, beq_self_eq_true], r.head, List.mem_cons_self⟩
    · rw [lookup_ne q] at e
      obtain ⟨w, d', e1, e2, e3, e4⟩ := zip_lookup r.tail e
      exact ⟨w, d', e1, by rw [List.zip_cons_cons, List.lookup_cons, beq_eq_false_iff_ne.mpr q]; exact e2, e3, List.mem_cons_of_mem _ e4⟩
theorem zip_names : ∀ (names : List Str) (vs : List Value), vs.length = names.length → (names.zip vs).map (·.1) = names
  | [], _, _ => by simp
  | n :: ns, [], e => by cases e
  | n :: ns, v :: vs, e => by rw [List.zip_cons_cons, List.map_cons, zip_names ns vs (by simpa using e)]
theorem call_enter {n : Nat} {f : Addr} {fd : FuncData} {body : List Stmt} {names : List Str} {ds : List PyData} {A : Around} {s : Shared} {vs : List Value} {Q E : Value → Shared → Prop} (hf : W.Fun f fd) (ok : DefOk fd body names) (hlen : ds.length = names.length) (rm : Rm (n + 1) A) (kb : Kp W.base s.heap) (al : ∀ a, O a → ∃ o, s.heap.get? a = some o) (r : RpAll O s.heap vs ds)
    (h : ∀ s₁, Mo s s₁ → Inv W (fun b => s.heap.get? b) O (callEnvC fd s.heap.objs.size f) (names.zip (ds.map .sh)) s₁ → ∀ E', wpAny (model W.prog W.w) (A.deeper (callEnvC fd s.heap.objs.size f)) (execs body (callEnvC fd s.heap.objs.size f)) (fun fl s' => Q (match fl with | .ret v => v | _ => .none) s') E' s₁) :
    wpAny (model W.prog W.w) A (call (.ref f) vs) Q E s := by
  obtain ⟨o, ho, hd⟩ := hf.at_
  have hvl : vs.length = names.length := by rw [r.length, hlen]
  have hnd : ((names.zip vs).map (·.1)).Nodup := by rw [zip_names names vs hvl]; exact ok.nd
  refine wpAny_call (codeAny_call_cells (fd := fd) (body := body) (by have := rm.dp; omega) (kb _ _ ho) hd (hf.lim.keeps kb) (hf.cd.keeps kb) ok.body_ (ok.bind vs hvl) ok.clos ?_ (fun s₁ X => ?_) ok.co ok.gen ok.kind)
  · intro x hx
    have hm : x.1 ∈ names := by rw [← zip_names names vs hvl]; exact List.mem_map_of_mem hx
    rcases ok.kn x.1 hm with q | q
    · exact .inl q
    · exact .inr ⟨q, cells_some _ _ _ (.inl q)⟩
  · obtain ⟨h₁, t₁, rfl⟩ := X.toInCall.same
    have kp : Kp s.heap h₁ := X.toInCall.keep
    refine wpAny_mono (h _ .of ⟨O, bindL (callEnvC fd s.heap.objs.size f).kindOf (names.zip vs) fun _ => none, fun _ => (0 : Nat), ?_⟩ (fun e s' => wpAny (model W.prog W.w) (A.deeper (callEnvC fd s.heap.objs.size f)) (leaving (callEnvC fd s.heap.objs.size f) e) (fun _ s'' => E e s'') (fun e' s'' => E e' s'') s')) (fun fl s' q => q) fun _ _ e => e
    have none_ : ∀ (y : Str) (c : Addr), (callEnvC fd s.heap.objs.size f).cells.lookup y = some c → s.heap.get? c = none := fun y c hm => by
      have lt := X.above y c (mem_of_lookup hm)
      cases e : s.heap.get? c with
      | none => rfl
      | some o => exact absurd (Heap.lt_size e) (Nat.not_lt.mpr (Nat.le_of_lt lt))
    have cell_ : ∀ (y : Str) (c : Addr), (callEnvC fd s.heap.objs.size f).cells.lookup y = some c → ∃ v, h₁.IsCell c v := fun y c hm => ⟨_, X.cell y c hm⟩
    refine { rd := ⟨ok.kind, ok.gl, ok.bi, X.toInCall.ns, fun x d e => ?_, fun a q => let ⟨o, e⟩ := al a q; ⟨o, kp a o e⟩, kb.trans kp⟩, sub := fun _ q => q, kb := kb, kk := kp, kl := get_none_of_size _, kc := fun y c hm => ⟨none_ y c hm, cell_ y c hm⟩, ap := X.apart, ow := fun x pl ds e => ?_, okk := fun _ q => .inl q, inj := fun x y pl pe ds es e => ?_ }
    · obtain ⟨v, d', e1, e2, e3, e4⟩ := zip_lookup r e
      cases e1
      refine ⟨v, ?_, e3.keeps kp⟩
      rcases ok.kn x e4 with q | q
      · exact .inl ⟨q, bindL_hit q hnd e2⟩
      · have hs := cells_some fd.scope.names (s.heap.objs.size + 1) [] (.inl q)
        obtain ⟨c, hc⟩ := Option.isSome_iff_exists.mp hs
        have hcc := X.cell x c hc
        rw [bindC_hit q hnd e2] at hcc
        exact .inr ⟨q, c, hc, hcc⟩
    · obtain ⟨v, d', e1, _⟩ := zip_lookup r e
      cases e1
    · obtain ⟨v, d', e1, _⟩ := zip_lookup r e
      cases e1
theorem fn_of {n : Nat} {f : Addr} {fd : FuncData} {body : List Stmt} {names : List Str} {ds : List PyData} {P : PyData → Prop} (hf : W.Fun f fd) (ok : DefOk fd body names) (hlen : ds.length = names.length)
    (h : ∀ A L, Rm n A → EX W A (callEnvC fd L f) (names.zip (ds.map .sh)) body fun o => match o with | .ret d => P d | .next _ => P .none | _ => False) : FN W (n + 1) f ds P := by
  intro A s O vs rm kb al r Q E q
  refine call_enter hf ok hlen rm kb al r fun s₁ sm I E' => ?_
  refine h _ _ rm.deeper _ O s₁ I _ _ fun o fl s' p sm' g => ?_
  have mo := sm.trans sm'
  cases o with
  | ret d =>
    obtain ⟨v, rfl, g1, g2⟩ := g
    exact q v d s' (mo.mv g1) g2 p
  | next ρ' =>
    obtain ⟨rfl, O', m', ad', I'⟩ := g
    exact q _ .none s' (mo.mv I'.kk) Rp.none p
  | brk _ => exact p.elim
  | cont _ => exact p.elim
  | reto _ => exact p.elim
theorem fno_of {n : Nat} {f : Addr} {fd : FuncData} {body : List Stmt} {names : List Str} {ds : List PyData} {P : List PyData → Prop} (hf : W.Fun f fd) (ok : DefOk fd body names) (hlen : ds.length = names.length)
    (h : ∀ A L, Rm n A → EX W A (callEnvC fd L f) (names.zip (ds.map .sh)) body fun o => match o with | .reto d => P d | _ => False) : FNo W (n + 1) f ds P := by
  intro A s O vs rm kb al r Q E q
  refine call_enter hf ok hlen rm kb al r fun s₁ sm I E' => ?_
  refine h _ _ rm.deeper _ O s₁ I _ _ fun o fl s' p sm' g => ?_
  have mo := sm.trans sm'
  cases o with
  | reto es =>
    obtain ⟨D, vs', rfl, g1, g2, g3, g4, g5⟩ := g
    exact q D vs' es s' g2 (mo.mv g1) g4 g5 p
  | ret d => exact p.elim
  | next _ => exact p.elim
  | brk _ => exact p.elim
  | cont _ => exact p.elim
/-! ### a list of one item, many times -/
theorem evo_mul {l r : Expr} {pos : Pos} {P : List PyData → Prop} (x : EV W A env ρ l fun a => EV W A env ρ r fun b => match a, b with | .list [d], .int n => 0 ≤ n ∧ n ≤ 2 ^ 20 ∧ P (List.replicate n.toNat d) | _, _ => False) : EVo W A env ρ (.BinOp l .Mult r pos) P := by
  intro s O m R Q E f
  refine wpAny_BinOp (x s O m R _ _ fun va a s₁ k₁ ra y => ?_)
  refine y _ O m (R.keeps k₁.kp) _ _ fun vb b s₂ k₂ rb z => ?_
  match a, b, ra, rb, z with
  | .list [d], .int n, ra, rb, z =>
  obtain ⟨z1, z2, p⟩ := z
  obtain ⟨u, rfl⟩ := rb.int_inv
  obtain ⟨l, vs, rfl, hl, rs, _⟩ := (ra.keeps k₂.kp).list_inv
  have hv : ∃ v, vs = [v] ∧ Rp O s₂.heap v d := by
    match vs, rs with
    | [], ⟨_, _, r, _⟩ => cases r
    | [v], rs => exact ⟨v, rfl, rs.head⟩
    | _ :: _ :: _, rs => obtain ⟨_, _, q, _⟩ := rs.tail; cases q
  obtain ⟨v, rfl, rv⟩ := hv
  obtain ⟨⟨cls, dd, data, sl⟩, ho, hcl, k, hd⟩ := id hl
  simp only at hcl hd
  subst hcl hd
  have hsz' : ([v].toArray).size * n.toNat ≤ 2 ^ 24 := by simp; omega
  refine wpAny_binaryOp_repeat_ref (T := "list") (U := "int") (by decide) ⟨_, ho, rfl⟩ (fun s' => typeIs_int s' n u) noFill_list_mul PySem.F.fills_int_mul PySem.F.slot_int_rmul repeat_list PySem.F.slot_int_index.lookup
    (call_meets PySem.F.slot_int_rmul (typeIs_int _ n u) PySem.F.entry_int_rmul (PySem.F.args_int_rmul_2 _ _) (lm_int_rmul_list_any n u l [v].toArray k dd sl)
      ⟨ho, rfl, ⟨_, ho, rfl⟩, call_meets PySem.F.slot_list_mul ⟨_, ho, rfl⟩ PySem.F.entry_list_mul (PySem.F.args_list_mul_2 _ _)
        (lm_list_mul_any l [v].toArray k dd sl n u (by simp [Builtin.List.listFitsIndex]; omega) (by omega) (by simp [Builtin.List.listTooLong, sizeLine]; omega))
        ⟨ho, ?_⟩⟩)
  have e2 : List.foldl (fun x1 x2 => x1 ++ x2) #[] (List.replicate (if ([v].toArray).isEmpty = true then 0 else n.toNat) [v].toArray) = (List.replicate n.toNat v).toArray := by
    rw [listMul_foldl_if]
    exact congrArg List.toArray (lm_rep_flat_one v n.toNat)
  rw [e2]
  have k₃ := Kp.push s₂.heap { cls := .type "list", data := .seq (List.replicate n.toNat v).toArray }
  exact f s₂.heap.objs.size (List.replicate n.toNat v) (List.replicate n.toNat d) _ ((k₁.trans k₂).kp.none (get_none_of_size _)) ((k₁.trans k₂).trans .new) ⟨0, Heap.get?_push_size _ rfl⟩ ((RpAll.replicate rv n.toNat).addNew (get_none_of_size _) k₃) p
end
end Mine

set_option maxRecDepth 100000
set_option autoImplicit false
set_option linter.unusedVariables false
namespace Mine
open PySem PySem.W PySem.Calls PyProof.Rows PySem.Spec
/-! ### the text's defs, by their place -/
def fdef (p : Program) (i : Nat) : DefRec := match p.main.body[i]? with
  | some (.FunctionDef n a b _ _ _ sc _ _ pos) => ⟨n, a, b, sc, pos⟩
  | _ => ⟨"", ⟨[], [], none, [], [], none, []⟩, [], { kind := .function, names := [], isGenerator := false, isCoroutine := false, more := [] }, ⟨0, 0, 0, 0⟩⟩
abbrev fdOf (d : DefRec) (pm code doc : Value) : FuncData := docDef d.name d.params d.body d.scope pm code doc
/-- the def stands at f -/
def Wd.Df (W : Wd) (d : DefRec) (f : Addr) : Prop := W.Gl d.name (.ref f) ∧ ∃ pm code doc, W.Fun f (fdOf d pm code doc)
section
variable {p : Program} {loose : List Str} {mean : ExcName → Option Value} {mg mb : Str → Option Value} {h : Heap} {prog : Program} {w : World}
theorem df_of (T : Top p loose mean mg mb h) {d : DefRec} (hd : d ∈ recsOf p) : ∃ f, mg d.name = some (.ref f) ∧ Wd.Df ⟨prog, w, h⟩ d f := by
  obtain ⟨a, o, pm, code, doc, h1, h2, h3, h4⟩ := T.fn d hd
  exact ⟨a, h1, .inl ⟨mg, T.g, h1⟩, pm, code, doc, ⟨⟨o, h2, h3⟩, T.nolimit, h4⟩⟩
theorem gl_boot (T : Top p loose mean mg mb h) {x : Str} {v : Value} (hv : bootBuiltins x = some v) (hx : x ≠ "__name__") (h1 : x ∉ startupNames) (h2 : x ∉ loose) (h3 : x ∉ (recsOf p).map (·.name)) (h4 : x ∉ (litsOf p).map (·.1)) (h5 : x ∉ (clssOf p loose).map (·.name)) : Wd.Gl ⟨prog, w, h⟩ x v :=
  .inr ⟨mg, mb, T.g, T.free x h1 h2 h3 h4 h5, T.b, (T.builtins x hx).trans hv⟩
theorem end_true {c : ClaimW} {cl : Str → Option Addr} {mean : ExcName → Option Value} {args : List WData} {s₁ s' : Shared} {v : Value} {O : Addr → Prop} (hr : ∀ cls, c.raises args cls = false) (hp : c.post args (.bool true) args = true) (hg : s₁.gens = #[]) (m : Mv s₁ s') (r : Rp O s'.heap v (.bool true)) :
    GoodWG c cl mean args s₁ (.ok (.ret v)) s' := by
  rw [r.bool_inv]
  exact ⟨.inl ⟨_, .bool true, [], rfl, hr, .bool true, hp, fun _ => ⟨.nil, fun _ q => nomatch q⟩⟩, .of_keep m.kp, m.os, m.gs (.of_eq hg)⟩
theorem canLay_ints : ∀ ns : List Int, PyData.canLayAll0 (ns.map .int) = true
  | [] => rfl
  | n :: ns => canAll_cons.mpr ⟨rfl, canLay_ints ns⟩
theorem close_law {n : Nat} {c : ClaimW} {cl : Str → Option Addr} {mean : ExcName → Option Value} {args : List WData} {s₁ : Shared} {fa l : Addr} {ns : List Int} {as : List Addr} {E : Value → Shared → Prop}
    (x : FN ⟨prog, w, s₁.heap⟩ n fa [.list (ns.map .int)] fun d => d = .bool true) (hn : Rm n callerA) (r : Reads s₁.heap (.ref l) (.list (ns.map .int)) as) (hr : ∀ cls, c.raises args cls = false) (hp : c.post args (.bool true) args = true) (hg : s₁.gens = #[]) :
    wpAny (model prog w) callerA (call (.ref fa) [.ref l]) (fun v s' => GoodWG c cl mean args s₁ (.ok (.ret v)) s') E s₁ := by
  refine x callerA s₁ (fun _ => False) [.ref l] hn (.refl _) (fun _ q => q.elim) (.cons ⟨canLay_ints ns, as, r, fun _ _ q => q⟩ .nil) _ _ fun v d s' m rv e => ?_
  subst e
  exact end_true hr hp hg m rv
end
end Mine
namespace Mine
open PySem PySem.W PySem.Calls PyProof.Rows PySem.Spec
def kchk (sc : Scope) (names : List Str) : Bool := names.all fun x => decide (sc.names.lookup x = some .local) || decide (sc.names.lookup x = some .cell)
theorem defOk {d : DefRec} {pm code doc : Value} {names : List Str} (h1 : d.scope.isCoroutine = false) (h2 : d.scope.isGenerator = false) (h3 : d.scope.kind = .function)
    (h4 : ∀ vs, vs.length = names.length → bindArgs (fdOf d pm code doc) ⟨vs, []⟩ = pure (names.zip vs)) (h5 : names.Nodup) (h6 : kchk d.scope names = true) : DefOk (fdOf d pm code doc) d.body names where
  body_ := rfl
  clos := rfl
  gl := rfl
  bi := rfl
  co := h1
  gen := h2
  kind := h3
  bind := h4
  nd := h5
  kn := fun x hx => by
    have := List.all_eq_true.mp h6 x hx
    rcases Bool.or_eq_true_iff.mp this with q | q
    · exact .inl (of_decide_eq_true q)
    · exact .inr (of_decide_eq_true q)
end Mine

set_option maxRecDepth 100000
set_option autoImplicit false
set_option linter.unusedVariables false
namespace Mine
open PySem PySem.W PySem.Calls PyProof.Rows PySem.Spec
section
variable {W : Wd} {A : Around} {env : Env} {ρ : Store} {P : Out → Prop}
/-- one statement, what holds after it, and the rest -/
theorem ex_cut {st : Stmt} {rest : List Stmt} (J : Store → Prop) (x : EX1 W A env ρ st fun o => match o with | .next ρ' => J ρ' | o => P o) (y : ∀ ρ', J ρ' → EX W A env ρ' rest P) : EX W A env ρ (st :: rest) P :=
  ex_cons (x.mono fun o p => match o, p with
    | .next ρ', p => y ρ' p
    | .brk _, p => p
    | .cont _, p => p
    | .ret _, p => p
    | .reto _, p => p)
end
theorem filtT (ds : List PyData) : ds.filter (fun _ => true) = ds := by simp
/-- the reader: script[i], or 0 -/
def cellv (ns : List Int) (i : Int) : Int := ns.getD i.toNat 0
open PySem.Builtin.Int in
theorem cell_bits {ns : List Int} (hL : PyData.layable0 (.list (ns.map .int)) = true) (i : Int) : intBits (cellv ns i) ≤ 1048576 := by
  unfold cellv List.getD
  cases h : ns[i.toNat]? with
  | none => exact intBits_le_iff.mpr (by show (0 : Nat) < _; exact Nat.two_pow_pos _)
  | some x => exact intBits_le_of_item (List.mem_of_getElem? h) hL
theorem rangeL_get {a b : Int} {i : Nat} {d : PyData} (h : (rangeL a b)[i]? = some d) : d = .int (a + (i : Int)) ∧ i < (b - a).toNat ∧ a + (i : Int) < b := by
  unfold rangeL at h
  rw [List.getElem?_map] at h
  by_cases hi : i < (b - a).toNat
  · rw [List.getElem?_range hi] at h
    simp at h
    exact ⟨h.symm, hi, by omega⟩
  · rw [List.getElem?_eq_none (by simp; omega)] at h
    cases h
theorem rangeL_mem {a b : Int} {d : PyData} (h : d ∈ rangeL a b) : ∃ k : Int, d = .int k ∧ a ≤ k ∧ k < b := by
  obtain ⟨i, hi⟩ := List.getElem?_of_mem h
  obtain ⟨h1, h2, h3⟩ := rangeL_get hi
  exact ⟨_, h1, by omega, h3⟩
theorem depthAll_le {n : Nat} : ∀ {xs : List PyData}, (∀ x ∈ xs, x.depth ≤ n) → PyData.depthAll xs ≤ n
  | [], _ => by simp [PyData.depthAll]
  | x :: xs, h => by
    have h1 := h x (.head _)
    have h2 := depthAll_le (xs := xs) fun y hy => h y (.tail _ hy)
    simp only [PyData.depthAll]
    omega
theorem depth_list {n : Nat} {xs : List PyData} (h : ∀ x ∈ xs, x.depth ≤ n) : (PyData.list xs).depth ≤ n + 1 := by
  have := depthAll_le h
  simp only [PyData.depth]
  omega
theorem canLayAll_of : ∀ {xs : List PyData}, (∀ x ∈ xs, x.canLay0 = true) → PyData.canLayAll0 xs = true
  | [], _ => rfl
  | x :: xs, h => canAll_cons.mpr ⟨h x (.head _), canLayAll_of fun y hy => h y (.tail _ hy)⟩
/-- a def on data out of one on ints -/
def onInt (g : Int → PyData) : PyData → PyData
  | .int k => g k
  | _ => .none
def onIntB (g : Int → Bool) : PyData → Bool
  | .int k => g k
  | _ => false
def onList (g : List PyData → PyData) : PyData → PyData
  | .list k => g k
  | _ => .none
def FrAll (q : Str → Prop) : List Str → Prop
  | [] => True
  | y :: r => q y ∧ FrAll q r
theorem FrAll.get {q : Str → Prop} : ∀ {fr : List Str}, FrAll q fr → ∀ y ∈ fr, q y
  | _ :: _, h, _, .head _ => h.1
  | _ :: _, h, y, .tail _ m => FrAll.get h.2 y m
/-- a comprehension whose name is a plain local -/
theorem compOk {scope : Scope} {env : Env} {cl : List (Str × Addr)} {x : Str} {fr : List Str} (clos : closureFor scope env = pure cl) (kind : scope.kind = .function) (names : ∀ z ∈ scope.names, z.2 = .local → scope.names.lookup z.1 = some .local)
    (hx : ∀ C, (ce scope cl env C).kindOf x = some .local)
    (hfr : ∀ C, FrAll (fun y => y ≠ x ∧ env.kindOf y = some .cell ∧ (ce scope cl env C).kindOf y = some .cell ∧ (ce scope cl env C).cells.lookup y = env.cells.lookup y) fr) : CompOk scope env cl x fr :=
  ⟨clos, kind, names, fun C => .inl (hx C), fun C => (hfr C).get⟩
/-- a comprehension whose name is a cell, of an inner one -/
theorem compOkC {scope : Scope} {env : Env} {cl : List (Str × Addr)} {x : Str} {fr : List Str} (clos : closureFor scope env = pure cl) (kind : scope.kind = .function) (names : ∀ z ∈ scope.names, z.2 = .local → scope.names.lookup z.1 = some .local)
    (hx : ∀ C, (ce scope cl env C).kindOf x = some .cell ∧ ∃ c, (ce scope cl env C).cells.lookup x = some c ∧ (x, c) ∈ cellsFrom (C + 1) scope.names [])
    (hfr : ∀ C, FrAll (fun y => y ≠ x ∧ env.kindOf y = some .cell ∧ (ce scope cl env C).kindOf y = some .cell ∧ (ce scope cl env C).cells.lookup y = env.cells.lookup y) fr) : CompOk scope env cl x fr :=
  ⟨clos, kind, names, fun C => .inr (hx C), fun C => (hfr C).get⟩
end Mine

set_option maxRecDepth 100000
set_option autoImplicit false
set_option linter.unusedVariables false
namespace Mine
open PySem PySem.W PySem.Calls PyProof.Rows PySem.Spec
section
variable {W : Wd} {A : Around} {env : Env} {ρ : Store} {P P' : PyData → Prop}
/-! ### a comprehension over a list that is lent -/
set_option maxHeartbeats 1000000 in
theorem comp_raw {elt iter : Expr} {x : Str} {px pos' : Pos} {scope : Scope} {pos : Pos} {cl : List (Str × Addr)} {use : Option (Value → Sem Unit)} {s : Shared} {O : Addr → Prop} {m : Str → Option Value} {Qc E : Value → Shared → Prop} {ds : List PyData}
    (R : Rd W env [] O m s.heap) (ok : CompOk scope env cl x []) (hlen : ds.length ≤ 2 ^ 20)
    (hi : ∀ K E' : Value → Shared → Prop, (∀ I fp Pv St s₁ s', Mv s s₁ → Mv s₁ s' → s₁.heap.get? I = none → Walks W.prog W.w A I fp [I] ds.length Pv St → St 0 s'.heap → (∀ b ∈ fp, b = I ∨ ∃ o, s₁.heap.get? b = some o) → (∀ i h, St i h → ∃ o, h.get? I = some o ∧ ∀ vs k, o.data ≠ .seq vs k) →
      (∀ i d, ds[i]? = some d → ∀ C D v t m', Pv i v → Nm (ce scope cl env C) m' t.heap x v → Kp s₁.heap t.heap → Rd W (ce scope cl env C) [] (fun a => O a ∨ a = D) m' t.heap → ∀ Q E'' : Value → Shared → Prop, (∀ y s'', Mv t s'' → Rp (fun a => O a ∨ a = D) s''.heap y d → Q y s'') → wpAny (model W.prog W.w) A (eval elt (ce scope cl env C)) Q E'' t) → K (.ref I) s') →
      wpAny (model W.prog W.w) A (eval iter env) (fun x s₁ => wpAny (model W.prog W.w) A (pyIter x) K E' s₁) E' s)
    (hpost : ∀ D C ys s' m', s.heap.get? D = none → s.heap.get? C = none → D ≠ C → Mv s s' → s'.heap.Ns C m' → s'.heap.PlainList D ys.toArray → RpAll (fun a => O a ∨ a = D) s'.heap ys ds → compPost (model W.prog W.w) A E use Qc (.ref D) C (.ok .next) s')
    (hs : ∀ x, foldedSetIterable iter env x = pure x) :
    wpAny (model W.prog W.w) A (comprehension (.ListComp elt [⟨.Name x px, iter, [], 0⟩] scope pos) scope env pos' (newList []) false (eval iter env) use) Qc E s := by
  refine wpAny_comprehension_free (g := ⟨.Name x px, iter, [], 0⟩) (gs := []) rfl hs ok.clos ok.kind ok.names ?_
  refine hi _ _ fun I fp Pv St s₁ s₂ k₁ k₂ hI Wk st hfp hIo hel => ?_
  refine wpAny_newObj_type ?_ (by show ([] : List Value).toArray.size ≤ sizeLine; simp)
  refine newEnv_comp fun h₃ k₃ hns hcells => ?_
  dsimp only at k₃ hns hcells ⊢
  generalize hH2 : s₂.heap.push { cls := .type "list", dict := none, data := .seq ([] : List Value).toArray } = H2 at k₃ hns hcells ⊢
  have hC : (H2.objs.size : Nat) = s₂.heap.objs.size + 1 := by rw [← hH2, Heap.size_push]
  have kH : Kp s₂.heap H2 := by rw [← hH2]; exact Kp.push _ _
  have hD2 : H2.PlainList s₂.heap.objs.size ([] : List Value).toArray := ⟨0, by rw [← hH2]; exact Heap.get?_push_size _ rfl⟩
  have big2 : ∀ a : Nat, s₂.heap.objs.size ≤ a → s₂.heap.get? a = none := fun a ha => by
    cases e : s₂.heap.get? a with
    | none => rfl
    | some o => exact absurd (Heap.lt_size e) (Nat.not_lt.mpr ha)
  obtain ⟨oI, hIo', _⟩ := hIo 0 _ st
  have hIlt : (I : Nat) < s₂.heap.objs.size := Heap.lt_size hIo'
  generalize (s₂.heap.objs.size : Nat) = D at *
  generalize (H2.objs.size : Nat) = C at *
  subst hC
  have hDC : D ≠ D + 1 := Nat.ne_of_lt (Nat.lt_succ_self _)
  have big1 : ∀ a : Nat, D ≤ a → s₁.heap.get? a = none := fun a ha => k₂.kp.none (big2 a ha)
  have big0 : ∀ a : Nat, D ≤ a → s.heap.get? a = none := fun a ha => k₁.kp.none (big1 a ha)
  have hlo : ∀ n (c : Nat), (n, c) ∈ cellsFrom (D + 1 + 1) scope.names [] → D + 1 + 1 ≤ c := fun n c hm => (hcells n c hm).2
  have hTbig : ∀ T : Nat, (T = D + 1 ∨ ∃ n, (n, T) ∈ cellsFrom (D + 1 + 1) scope.names []) → D + 1 ≤ T := by
    rintro T (rfl | ⟨n, hm⟩)
    · exact Nat.le_refl _
    · exact Nat.le_of_succ_le (hlo n T hm)
  have nI : ∀ b : Nat, D ≤ b → b ∉ [I] := fun b hb hm => by
    have e : b = I := List.mem_singleton.mp hm
    rw [e] at hb
    exact absurd hIlt (Nat.not_lt.mpr hb)
  have loop : ∀ s₃ : Shared, s₃ = { s₂ with heap := h₃ } →
      codeAny (model W.prog W.w) A (.compLoop (.ListComp elt [⟨.Name x px, iter, [], 0⟩] scope pos) 0 (.ref I) (.ref D) (ce scope cl env (D + 1))) (compPost (model W.prog W.w) A E use Qc (.ref D) (D + 1)) s₃ := by
    rintro s₃ rfl
    refine codeAny_compLoop_tests
      (fun k s' => ∃ i ys m', Mo s₁ s' ∧ i ≤ ds.length ∧ k = ds.length + 1 - i ∧ St i s'.heap ∧ Kp s₁.heap s'.heap ∧ s'.heap.Ns (D + 1) m' ∧ (∀ n c, (n, c) ∈ cellsFrom (D + 1 + 1) scope.names [] → ∃ v, s'.heap.IsCell c v) ∧
        s'.heap.PlainList D ys.toArray ∧ RpAll (fun a => O a ∨ a = D) s'.heap ys (ds.take i)) ?_ (ds.length + 1)
      ⟨0, [], _, k₂.mo.trans .heap, Nat.zero_le _, rfl, ?_, (k₂.kp.trans kH).trans k₃, hns, fun n c hm => ⟨_, (hcells n c hm).1⟩, hD2.at fun o e => k₃ _ o e, by simpa using RpAll.nil⟩
    · rintro k s' ⟨i, ys, m', mo, hi', rfl, hst', kh, hn', hcl', hpl, hrp⟩
      obtain ⟨oI', hIh, hIns⟩ := hIo i s'.heap hst'
      by_cases hlt : i < ds.length
      · have hd : ds[i]? = some ds[i] := List.getElem?_eq_getElem hlt
        generalize ds[i] = d at hd
        refine Wk.item i _ _ _ hlt hst' fun v h₄ tk₄ hPv hst₄ hk₄ => ?_
        have kb₄ : ∀ b o, b ≠ I → s'.heap.get? b = some o → h₄.get? b = some o := fun b o hb e => hk₄ b o (by simpa using hb) e
        have kI : Kp s₁.heap h₄ := fun b o e => hk₄ b o (fun hm => by rw [List.mem_singleton.mp hm, hI] at e; cases e) (kh b o e)
        have hn₄ : h₄.Ns (D + 1) m' := hn'.at' fun o e => hk₄ _ o (nI _ (Nat.le_succ _)) e
        have hcl₄ : ∀ n c, (n, c) ∈ cellsFrom (D + 1 + 1) scope.names [] → ∃ v, h₄.IsCell c v := fun n c hm => by
          obtain ⟨v, o, e, q⟩ := hcl' n c hm
          exact ⟨v, o, hk₄ c o (nI c (Nat.le_of_succ_le (Nat.le_of_succ_le (hlo n c hm)))) e, q⟩
        have hpl₄ : h₄.PlainList D ys.toArray := hpl.at fun o e => hk₄ D o (nI D (Nat.le_refl _)) e
        have hrp₄ := hrp.butNs hIh hIns kb₄
        refine store_x ok hn₄ hcl₄ hlo fun h₅ tk₅ m₅ T hT kT hTo hn₅ hcl₅ hNm => ?_
        have hTD : D + 1 ≤ T := hTbig T hT
        obtain ⟨oT, hTo, hTns⟩ := hTo
        have neT : ∀ (b : Nat), b < D + 1 → b ≠ T := fun b hb q => by rw [q] at hb; exact absurd hb (Nat.not_lt.mpr hTD)
        have k₅ : Kp s₁.heap h₅ := fun b o e => kT b o (fun q => by rw [q, big1 T (Nat.le_of_succ_le hTD)] at e; cases e) (kI b o e)
        have hpl₅ : h₅.PlainList D ys.toArray := hpl₄.at fun o e => kT D o (neT D (Nat.lt_succ_self _)) e
        have hrp₅ := hrp₄.butNs hTo hTns kT
        have hst₅ : St (i + 1) h₅ := Wk.frame _ _ _ hst₄ fun b hb o e => kT b o (fun q => by
          rcases hfp b hb with rfl | ⟨o', e'⟩
          · exact neT _ (Nat.lt_succ_of_lt hIlt) q
          · rw [q, big1 T (Nat.le_of_succ_le hTD)] at e'; cases e') e
        have R₁ := R.keeps k₁.kp
        have Rc : Rd W (ce scope cl env (D + 1)) [] (fun a => O a ∨ a = D) m₅ h₅ := {
          fn := ok.kind
          gl := R.gl
          bi := R.bi
          ns := hn₅
          at_ := fun y dy hy => by cases hy
          al := fun a q => by
            rcases q with q | q
            · obtain ⟨o, e⟩ := R₁.al a q
              exact ⟨o, k₅ a o e⟩
            · subst q
              obtain ⟨n, e⟩ := hpl₅
              exact ⟨_, e⟩
          gr := R₁.gr.trans k₅ }
        refine wpAny_tests_nil ?_
        simp only [if_true]
        refine hel i d hd (D + 1) D v _ m₅ hPv hNm k₅ Rc _ _ fun y s₇ mv₇ ry => ?_
        have k₇ := mv₇.kp
        have hpl₇ : s₇.heap.PlainList D ys.toArray := hpl₅.at fun o e => k₇ _ o e
        have hrp₇ := hrp₅.keeps k₇
        have hsz : ys.toArray.size ≤ sizeLine := by
          rw [List.size_toArray, hrp₇.length, sizeLine_eq]
          have := List.length_take_le i ds
          omega
        refine wpAny_list_append_plain (hsz := hsz) hpl₇ fun h₈ hl₈ hs₈ => ?_
        obtain ⟨nn, hD7⟩ := hpl₇
        have k₈ : ∀ b o, b ≠ D → s₇.heap.get? b = some o → h₈.get? b = some o := fun b o hb e => hs₈.extBut b o hb e
        refine ⟨ds.length + 1 - (i + 1), by omega, i + 1, ys ++ [y], m₅, ((mo.trans (Mo.trans .of .of)).trans mv₇.mo).trans .heap, hlt, rfl, Wk.frame _ _ _ hst₅ fun b hb o e => k₈ b o (fun q => ?_) (k₇ b o e), ?_, (hn₅.keeps k₇).sameBut hs₈ (Ne.symm hDC), fun n c hm => ?_, by simpa using hl₈, ?_⟩
        · rcases hfp b hb with rfl | ⟨o', e'⟩
          · exact Nat.ne_of_lt hIlt q
          · rw [q, big1 D (Nat.le_refl _)] at e'; cases e'
        · exact fun b o e => k₈ b o (fun q => by rw [q, big1 D (Nat.le_refl _)] at e; cases e) (k₇ b o (k₅ b o e))
        · obtain ⟨v, hv⟩ := hcl₅ n c hm
          exact ⟨v, (hv.keeps k₇).sameBut hs₈ (Nat.ne_of_gt (Nat.lt_of_succ_lt (Nat.lt_of_lt_of_le (Nat.lt_succ_self _) (hlo n c hm))))⟩
        · rw [List.take_add_one, hd]
          exact (hrp₇.butOwn hD7 rfl (.inr rfl) k₈).append (.cons (ry.butOwn hD7 rfl (.inr rfl) k₈) .nil)
      · obtain rfl : i = ds.length := Nat.le_antisymm hi' (Nat.not_lt.mp hlt)
        refine Wk.done _ _ _ hst' fun h₄ tk₄ hk₄ => ?_
        have kb₄ : ∀ b o, b ≠ I → s'.heap.get? b = some o → h₄.get? b = some o := fun b o hb e => hk₄ b o (by simpa using hb) e
        have kI : Kp s₁.heap h₄ := fun b o e => hk₄ b o (fun hm => by rw [List.mem_singleton.mp hm, hI] at e; cases e) (kh b o e)
        have hrp₄ := hrp.butNs hIh hIns kb₄
        rw [List.take_length] at hrp₄
        exact hpost D (D + 1) ys _ m' (big0 D (Nat.le_refl _)) (big0 (D + 1) (Nat.le_succ _)) hDC (k₁.trans ((mo.trans .of).mv kI)) (hn'.at' fun o e => hk₄ _ o (nI _ (Nat.le_succ _)) e) (hpl.at fun o e => hk₄ D o (nI D (Nat.le_refl _)) e) hrp₄
    · exact Wk.frame _ _ _ st fun b hb o e => k₃ b o (kH b o e)
  exact codeAny_compStart_list (loop _ rfl) (Wk.self 0 _ _ _ (Wk.frame _ _ _ st fun b hb o e => k₃ b o (kH b o e)) (loop _ rfl))
end
end Mine

set_option maxRecDepth 100000
set_option autoImplicit false
set_option linter.unusedVariables false
namespace Mine
open PySem PySem.W PySem.Calls PyProof.Rows PySem.Spec
section
variable {W : Wd} {A : Around} {env : Env} {ρ : Store} {P P' : PyData → Prop} {O : Addr → Prop} {m : Str → Option Value}
theorem load_nm {x : Str} {xp : Pos} {v : Value} {s : Shared} {Q E : Value → Shared → Prop} (hf : env.scope.kind = .function) (hn : s.heap.Ns env.locals m) (n : Nm env m s.heap x v) (hd : (x == ("__debug__" : Str)) = false) (q : Q v s) :
    wpAny (model W.prog W.w) A (eval (.Name x xp) env) Q E s := by
  rcases n with ⟨a, b⟩ | ⟨a, c, b, g⟩
  · exact wpAny_Name (wpAny_loadName_local hf a hn b q) hd
  · exact wpAny_Name (wpAny_loadName_cell hf a b g q) hd
theorem Rd.bind {h : Heap} {x : Str} {v : Value} {d : PyData} (R : Rd W env [] O m h) (n : Nm env m h x v) (r : Rp O h v d) : Rd W env [(x, .sh d)] O m h := by
  refine ⟨R.fn, R.gl, R.bi, R.ns, fun y dy hy => ?_, R.al, R.gr⟩
  by_cases q : y = x
  · subst q; rw [lookup_self] at hy; cases hy; exact ⟨v, n, r⟩
  · rw [lookup_ne q] at hy; exact nomatch hy
theorem EV.use {e : Expr} {s : Shared} {Q E : Value → Shared → Prop} (x : EV W A env ρ e P) (R : Rd W env ρ O m s.heap) (q : ∀ v d s', Mv s s' → Rp O s'.heap v d → P d → Q v s') : wpAny (model W.prog W.w) A (eval e env) Q E s := x s O m R Q E q
theorem TV.use {e : Expr} {P : Bool → Prop} {s : Shared} {Q : Bool → Shared → Prop} {E : Value → Shared → Prop} (x : TV W A env ρ e P) (R : Rd W env ρ O m s.heap) (q : ∀ b s', Mv s s' → P b → Q b s') : wpAny (model W.prog W.w) A (isTrue e env (eval e env)) Q E s := x s O m R Q E q
/-- a comprehension over a list that a name lends -/
theorem comp_lent {elt : Expr} {y x : Str} {yp px pos : Pos} {scope : Scope} {cl : List (Str × Addr)} {s : Shared} {a : Addr} {vs : List Value} {ds : List PyData} {Q E : Value → Shared → Prop}
    (hh : A.handled = none) (R : Rd W env [] O m s.heap) (ok : CompOk scope env cl x []) (ny : Nm env m s.heap y (.ref a)) (hl : s.heap.IsList a vs.toArray) (hn : vs.length = ds.length) (hlen : ds.length ≤ 2 ^ 20)
    (hel : ∀ (i : Nat) (d : PyData) (v : Value), ds[i]? = some d → vs[i]? = some v → ∀ C D t m', Nm (ce scope cl env C) m' t.heap x v → Kp s.heap t.heap → Rd W (ce scope cl env C) [] (fun a => O a ∨ a = D) m' t.heap → ∀ Q E'' : Value → Shared → Prop, (∀ y s'', Mv t s'' → Rp (fun a => O a ∨ a = D) s''.heap y d → Q y s'') → wpAny (model W.prog W.w) A (eval elt (ce scope cl env C)) Q E'' t)
    (q : ∀ D ys s', s.heap.get? D = none → Mv s s' → s'.heap.PlainList D ys.toArray → RpAll (fun a => O a ∨ a = D) s'.heap ys ds → Q (.ref D) s')
    (hd : (y == ("__debug__" : Str)) = false) (hs : ∀ x, foldedSetIterable (.Name y yp) env x = pure x) :
    wpAny (model W.prog W.w) A (eval (.ListComp elt [⟨.Name x px, .Name y yp, [], 0⟩] scope pos) env) Q E s := by
  rw [eval_ListComp]
  refine comp_raw (ds := ds) R ok hlen (fun K E' f => ?_) (fun D C ys s' m' hD hC hDC k hn hl hr => ?_) hs
  · refine load_nm R.fn R.ns ny hd ?_
    have hlt : a < s.heap.objs.size := by obtain ⟨_, e, _⟩ := hl; exact Heap.lt_size e
    refine wpAny_pyIter_list hl ?_
    have Wk := Walks.list (prog := W.prog) (w := W.w) hh s.heap.objs.size a (Nat.ne_of_lt hlt) vs.toArray
    have en : vs.toArray.size = ds.length := by rw [List.size_toArray, hn]
    rw [en] at Wk
    refine f s.heap.objs.size _ _ _ s _ (.refl s) .new (get_none_of_size _) Wk ⟨⟨_, Heap.get?_push_size _ rfl, rfl, rfl⟩, hl.push _⟩ ?_ (fun i h st => by
      obtain ⟨⟨o, e, _, d⟩, _⟩ := st
      exact ⟨o, e, fun vs k q => by rw [d] at q; cases q⟩) ?_
    · intro b hb
      rcases List.mem_cons.mp hb with rfl | hb
      · exact .inl rfl
      · rw [List.mem_singleton.mp hb]
        obtain ⟨o, e, _⟩ := hl
        exact .inr ⟨o, e⟩
    · intro i d hd C D v t m' hv n k R' Q' E'' q'
      exact hel i d v hd (by simpa using hv) C D t m' n k R' Q' E'' q'
  · refine ⟨m', hn, fun h'' hs'' => ?_⟩
    obtain ⟨o, e, ns⟩ := ns_noSeq hn
    exact q D ys { s' with heap := h'' } hD ((k.mo.trans .heap).mv fun b o e => hs''.extBut b o (fun z => by rw [z, hC] at e; cases e) (k.kp b o e)) (hl.extBut hs''.extBut hDC) (hr.butNs e ns fun b o hb e => hs''.extBut b o hb e)
/-- a call whose result is new through and through -/
def FNf (W : Wd) (n : Nat) (f : Addr) (ds : List PyData) (P : PyData → Prop) : Prop :=
  ∀ (A : Around) (s : Shared) (vs : List Value), Rm n A → Kp W.base s.heap → RpAll (fun _ => False) s.heap vs ds → ∀ (Q E : Value → Shared → Prop),
    (∀ v d s', Mv s s' → Rp (fun a => ∃ o, s.heap.get? a = some o) s'.heap v d → P d → Q v s') → wpAny (model W.prog W.w) A (call (.ref f) vs) Q E s
theorem FNf.up {n m : Nat} {f : Addr} {ds : List PyData} (x : FNf W n f ds P) (k : n ≤ m) : FNf W m f ds P :=
  fun A s vs a b d Q E q => x A s vs (a.le k) b d Q E q
/-- seq objects stay -/
def KpS (h h' : Heap) : Prop := ∀ b o vs n, h.get? b = some o → o.data = .seq vs n → h'.get? b = some o
theorem Kp.s {h h' : Heap} (k : Kp h h') : KpS h h' := fun b o _ _ e _ => k b o e
theorem KpS.trans {a b c : Heap} (x : KpS a b) (y : KpS b c) : KpS a c := fun p o vs n e d => y p o vs n (x p o vs n e d) d
theorem KpS.plain {h h' : Heap} (k : KpS h h') {a : Addr} {its : Array Value} (l : h.PlainList a its) : h'.PlainList a its := let ⟨n, e⟩ := l; ⟨n, k a _ _ _ e rfl⟩
end
end Mine

set_option maxRecDepth 100000
set_option autoImplicit false
set_option linter.unusedVariables false
namespace Mine
open PySem PySem.W PySem.Calls PyProof.Rows PySem.Spec
abbrev p13 := PySem.Challenge.pw_k20_0013
def rowD (r : List Int) : PyData := .list (r.map .int)
def outD (r : List Int) : PyData := .list (r.map fun v => .tuple [.int v, .int 1])
theorem from13 {W : Wd} {f : Addr} (D : W.Df (fdef p13 1) f) (rows : List (List Int)) (hn : rows.length ≤ 2 ^ 20) (hr : ∀ r ∈ rows, r.length ≤ 2 ^ 20) : FNf W 1 f [.list (rows.map rowD)] fun d => d = .list (rows.map outD) := by
  obtain ⟨hg, pm, code, doc, hf⟩ := D
  intro A s vs rm kb r Q E q
  refine call_enter (O := fun _ => False) hf (names := ["rows"]) (defOk rfl rfl rfl (fun vs h => match vs, h with | [_], _ => rfl) (by decide) rfl) rfl rm kb (fun a x => x.elim) r fun s₁ sm I E' => ?_
  obtain ⟨O, m, ad, I⟩ := I
  obtain ⟨v, nv, rv⟩ := I.rd.at_ "rows" _ rfl
  obtain ⟨a, ws, rfl, hl, rs, _⟩ := rv.list_inv
  have R : Rd W _ [] (fun a => ∃ o, s.heap.get? a = some o) m s₁.heap := ⟨I.rd.fn, I.rd.gl, I.rd.bi, I.rd.ns, fun x d e => (nomatch e), fun a ⟨o, e⟩ => ⟨o, I.kk a o e⟩, I.rd.gr⟩
  have hlen : ws.length = (rows.map outD).length := by rw [rs.length]; simp
  refine wpAny_execs_cons (wpAny_Return_some ?_)
  refine comp_lent (ds := rows.map outD) rm.deeper.hh R (compOk rfl rfl (by decide) (fun _ => rfl) fun _ => trivial) nv hl hlen (by simpa using hn) (fun i d v hd hv C D t m' n k R' Q' E'' q' => ?_) (fun D ys s' hD k hl' hr' => ?_) (by decide) (fun _ => rfl)
  · rw [List.getElem?_map] at hd
    obtain ⟨row, hrow, rfl⟩ := Option.map_eq_some_iff.mp hd
    obtain ⟨v', hv', rv'⟩ := rs.get (i := i) (d := rowD row) (by rw [List.getElem?_map, hrow]; rfl)
    rw [hv] at hv'; cases hv'
    obtain ⟨b, us, rfl, hb, ru, _⟩ := (rv'.keeps k).list_inv
    have hlen' : us.length = (row.map fun v => PyData.tuple [.int v, .int 1]).length := by rw [ru.length]; simp
    have hrl : row.length ≤ 2 ^ 20 := hr row (List.mem_of_getElem? hrow)
    refine comp_lent (ds := row.map fun v => PyData.tuple [.int v, .int 1]) rm.deeper.hh R' (compOk rfl rfl (by decide) (fun _ => rfl) fun _ => trivial) n hb hlen' (by simpa using hrl) (fun j e u he hu C₂ D₂ t₂ m₂ n₂ k₂ R₂ Q₂ E₂ q₂ => ?_) (fun D₂ ys₂ s₂ hD₂ mv₂ hl₂ hr₂ => ?_) (by decide) (fun _ => rfl)
    · rw [List.getElem?_map] at he
      obtain ⟨z, hz, rfl⟩ := Option.map_eq_some_iff.mp he
      obtain ⟨u', hu', ru'⟩ := ru.get (i := j) (d := .int z) (by rw [List.getElem?_map, hz]; rfl)
      rw [hu] at hu'; cases hu'
      obtain ⟨tk, rfl⟩ := ru'.int_inv
      refine EV.use (P := fun d => d = .tuple [.int z, .int 1]) (ev_tuple (by decide) (evs_cons (ev_name rfl (evs_cons (ev_int (evs_nil ⟨by simp, rfl⟩)))))) (R₂.bind n₂ (.int z tk)) fun y d s'' mv ry e => ?_
      subst e
      exact q₂ y s'' mv ry
    · refine q' _ _ mv₂ (Rp.of_list hl₂.isList (hr₂.weak fun a h => .inl h) fun h => ?_)
      obtain ⟨o, e⟩ := R'.al _ h
      rw [hD₂] at e; cases e
  · refine q _ (.list (rows.map outD)) _ ((sm.trans k.mo).mv fun b o e => k.kp b o (I.kk b o e)) (Rp.of_list hl'.isList (hr'.weak fun a h => .inl h) fun h => ?_) rfl
    obtain ⟨o, e⟩ := h
    rw [I.kk D o e] at hD; cases hD
end Mine

set_option maxRecDepth 100000
set_option autoImplicit false
set_option linter.unusedVariables false
namespace Mine
open PySem PySem.W PySem.Calls PyProof.Rows PySem.Spec
section
variable {W : Wd} {A : Around} {env : Env} {ρ : Store} {P P' : Out → Prop} {k : Addr → Option Obj} {O₀ O : Addr → Prop} {m : Str → Option Value} {ad : Str → Addr} {h h' : Heap}
/-- a list set apart is changed -/
theorem InvC.mutO {a : Addr} {its : Array Value} (I : InvC W k O₀ env ρ O m ad h) (oO : O a) (nO : ¬ O₀ a) (l : h.PlainList a its) (hne : ∀ y pl ds, ρ.lookup y = some (.own pl ds) → ad y ≠ a)
    (b : ∀ b o, b ≠ a → h.get? b = some o → h'.get? b = some o) (st : ∃ o, h'.get? a = some o) : InvC W k O₀ env ρ O m ad h' := by
  obtain ⟨n, ea⟩ := l
  have kn : k a = none := (I.okk a oO).elim (fun q => absurd q nO) id
  have kk' : ∀ c o, k c = some o → h'.get? c = some o := fun c o e => b c o (fun q => by rw [q, kn] at e; cases e) (I.kk c o e)
  have hL : env.locals ≠ a := fun q => by
    obtain ⟨o, es, ep, e, d, _⟩ := I.rd.ns
    rw [q, ea] at e; cases e
    cases d
  have cl : ∀ y c v, env.cells.lookup y = some c → h.IsCell c v → h'.IsCell c v := fun y c v hm e => by
    obtain ⟨o, e, d⟩ := e
    exact ⟨o, b c o (fun q => by rw [q, ea] at e; cases e; cases d) e, d⟩
  have nm : ∀ y v, Nm env m h y v → Nm env m h' y v := fun y v n => by
    rcases n with ⟨a, g⟩ | ⟨a, c, g, e⟩
    · exact .inl ⟨a, g⟩
    · exact .inr ⟨a, c, g, cl y c _ g e⟩
  refine { rd := ⟨I.rd.fn, I.rd.gl, I.rd.bi, I.rd.ns.at' fun o e => b _ o hL e, fun y dy hy => ?_, fun c p => ?_, fun c o e => kk' c o (I.kb c o e)⟩, sub := I.sub, kb := I.kb, kk := kk', kl := I.kl, kc := fun y c hm => ⟨(I.kc y c hm).1, ?_⟩, ap := I.ap, ow := fun y pl₂ ds₂ hy => ?_, okk := I.okk, inj := I.inj }
  · obtain ⟨w, n', r'⟩ := I.rd.at_ y dy hy
    exact ⟨w, nm y w n', r'.butOwn ea rfl oO b⟩
  · by_cases q : c = a
    · rw [q]; exact st
    · obtain ⟨o, e⟩ := I.rd.al c p
      exact ⟨o, b c o q e⟩
  · obtain ⟨v, e⟩ := (I.kc y c hm).2
    exact ⟨v, cl y c v hm e⟩
  · obtain ⟨vs₂, n₂, a₂, b₂, c₂, l₂, rs₂⟩ := I.ow y pl₂ ds₂ hy
    exact ⟨vs₂, nm _ _ n₂, a₂, b₂, c₂, l₂.at fun o e _ => b _ o (hne y pl₂ ds₂ hy) e, rs₂.butOwn ea rfl oO b⟩
theorem InvC.weak {ρ' : Store} (q : SubS ρ' ρ) (I : InvC W k O₀ env ρ O m ad h) : InvC W k O₀ env ρ' O m ad h :=
  { rd := ⟨I.rd.fn, I.rd.gl, I.rd.bi, I.rd.ns, fun x d e => I.rd.at_ x d (q.get e), I.rd.al, I.rd.gr⟩, sub := I.sub, kb := I.kb, kk := I.kk, kl := I.kl, kc := I.kc, ap := I.ap, ow := fun x pl ds e => I.ow x pl ds (q.get e), okk := I.okk, inj := fun x y pl pe ds es a b => I.inj x y pl pe ds es (q.get a) (q.get b) }
theorem Stored.kps {x : Str} {v : Value} {T : Addr} {m' : Str → Option Value} (S : Stored env k m h x v T m' h') : KpS h h' := fun b o vs n e d => S.but b o (fun q => by
  obtain ⟨oT, eT, nT⟩ := S.nos
  rw [q, eT] at e; cases e
  exact nT vs n d) e
theorem kps_but {C : Addr} (hC : ∃ o, h.get? C = some o ∧ ∀ vs n, o.data ≠ .seq vs n) (b : ∀ b o, b ≠ C → h.get? b = some o → h'.get? b = some o) : KpS h h' := fun c o vs n e d => b c o (fun q => by
  obtain ⟨oT, eT, nT⟩ := hC
  rw [q, eT] at e; cases e
  exact nT vs n d) e
theorem assign_comp_raw {y : Str} {yp spos : Pos} {elt iter : Expr} {x : Str} {px : Pos} {ifs : List Expr} {scope : Scope} {pos : Pos} {cl : List (Str × Addr)} {fr : List Str} {s : Shared} {Q : Flow → Shared → Prop} {E : Value → Shared → Prop} {P : List PyData → Prop}
    (I : InvC W k O₀ env ρ O m ad s.heap) (hy : env.kindOf y = some .local) (ok : CompOk scope env cl x fr) (f : PyData → PyData) (pz : PyData → Bool)
    (hi : IT W A env ρ iter fun ds => (∀ d ∈ ds, ∀ C, TVs W A (ce scope cl env C) ((x, .sh d) :: frStore ρ fr) ifs (pz d) ∧ (pz d = true → EV W A (ce scope cl env C) ((x, .sh d) :: frStore ρ fr) elt fun y => y = f d)) ∧ P ((ds.filter pz).map f))
    (q : ∀ D ds s' m', P ds → s.heap.get? D = none → Mo s s' → KpS s.heap s'.heap → (∀ z w, z ≠ y → Nm env m s.heap z w → Nm env m' s'.heap z w) → InvC W k O₀ env ((y, .own true ds) :: ρ) (fun a => O a ∨ a = D) m' (fun z => if z = y then D else ad z) s'.heap → Q .next s')
    (hsw : swapsWith (.ListComp elt [⟨.Name x px, iter, ifs, 0⟩] scope pos) (some (.Name y yp)) spos.line env = pure true := by rfl)
    (hs : ∀ x, foldedSetIterable iter env x = pure x := by intro _; rfl) : wpAny (model W.prog W.w) A (exec (.Assign [.Name y yp] (.ListComp elt [⟨.Name x px, iter, ifs, 0⟩] scope pos) spos) env) Q E s := by
  rw [exec_Assign_Name_used _ _ _ _ hsw]
  refine wpAny_bind (wpAny_standAt (wpAny_bind ?_))
  show wpAny _ A (do let _ ← comprehension (.ListComp elt [⟨.Name x px, iter, ifs, 0⟩] scope pos) scope env _ (newList []) false (eval iter env) (some (assign (.Name y yp) env))) _ _ s
  refine wpAny_bind (wpAny_mono (comp_core (P := P) (Qc := fun _ s' => Q .next s') I.rd ok f pz hi (fun D C ys outs s₁ m₁ hD hC hDC k₁ hn hl r p => ?_) hs) (fun _ s' hq => wpAny_pure (wpAny_pure hq)) fun _ _ e => e)
  have J := I.withFresh hD k₁.kp (let ⟨n, e⟩ := hl; ⟨_, e⟩)
  show wpAny _ A (assign (.Name y yp) env (.ref D)) _ _ _
  refine wpAny_assign_Name (st_core J (.inl hy) fun h₂ t₂ m' T S => ?_)
  have J₂ := J.storedOwn S (.inr rfl) (fun q => I.rd.fresh hD (I.sub _ q)) (I.kfresh hD) hl r (I.ne_fresh hD)
  have hLC : env.locals ≠ C := fun q => by
    obtain ⟨o, _, _, e, _⟩ := I.rd.ns
    rw [q, hC] at e; cases e
  have hcC : ∀ y c, env.cells.lookup y = some c → c ≠ C := fun y c hm q => by
    obtain ⟨v, o, e, _⟩ := (I.kc y c hm).2
    rw [q, hC] at e; cases e
  have hTC : C ≠ T := fun q => by
    rcases S.wh with w | ⟨y, w⟩
    · exact hLC (by rw [q, w])
    · exact hcC y T w q.symm
  have hn₂ : h₂.Ns C m₁ := hn.at' fun o e => S.but C o hTC e
  refine ⟨m₁, hn₂, fun h₃ hs₃ => ?_⟩
  have b₃ : ∀ b o, b ≠ C → h₂.get? b = some o → h₃.get? b = some o := fun b o hb e => hs₃.extBut b o hb e
  refine q D outs _ m' p hD (k₁.mo.trans (Mo.trans .of .heap)) ((k₁.kp.s.trans S.kps).trans (kps_but (ns_noSeq hn₂) b₃)) (fun z w hz n => ?_) (J₂.butNs (ns_noSeq hn₂) (I.kfresh hC) hLC hcC (fun w => ?_) b₃)
  · rcases S.others z w hz (n.keeps k₁.kp) with ⟨a, b⟩ | ⟨a, c, b, o, e, d⟩
    · exact .inl ⟨a, b⟩
    · exact .inr ⟨a, c, b, o, b₃ c o (hcC z c b) e, d⟩
  · rcases w with w | w
    · exact I.rd.fresh hC w
    · exact hDC w.symm
/-- x.append(e), x a name of a plain list -/
theorem append_nm {x : Str} {xp ap cp pos : Pos} {e : Expr} {a : Addr} {its : Array Value} {s : Shared} {R : Value → Shared → Prop} {Q : Flow → Shared → Prop} {E : Value → Shared → Prop}
    (hf : env.scope.kind = .function) (hn : s.heap.Ns env.locals m) (n : Nm env m s.heap x (.ref a)) (l : s.heap.PlainList a its) (hz : its.size ≤ 2 ^ 20)
    (arg : ∀ Q E : Value → Shared → Prop, (∀ v s₁, Mv s s₁ → R v s₁ → Q v s₁) → wpAny (model W.prog W.w) A (eval e env) Q E s)
    (q : ∀ v s₁ h₃, Mv s s₁ → R v s₁ → h₃.PlainList a (its.push v) → (∀ b o, b ≠ a → s₁.heap.get? b = some o → h₃.get? b = some o) → Q .next { s₁ with heap := h₃ })
    (he : starEach [e] env = [(false, eval e env)] := by rfl) (hd : (x == ("__debug__" : Str)) = false := by decide)
    (hm : ∃ pl : Sem Bool, eval (.Call (.Attribute (.Name x xp) "append" ap) [e] [] cp) env = (do
      let ov ← eval (.Name x xp) env
      standAt ap.atName
      let (f, first) ← holding [ov] (getMethod ov "append" pl)
      callWith cp f first (backTo cp (starEach [e] env)) []) := by exact ⟨_, rfl⟩)
    (hi : interactive env = false := by rfl) : wpAny (model W.prog W.w) A (exec (.Expr (.Call (.Attribute (.Name x xp) "append" ap) [e] [] cp) pos) env) Q E s := by
  refine wpAny_Expr ?_ hi rfl
  obtain ⟨plb, hm⟩ := hm
  refine MethodCall_ (pl := plb) ?_ hm
  refine load_nm hf hn n hd ?_
  obtain ⟨n₀, e₀⟩ := id l
  refine getMethod_list_append e₀ rfl rfl ?_
  rw [he]
  refine callWith_builtin rfl (evalArgs_plain (spliced_cons (arg _ _ fun v s₁ k₁ r => spliced_nil ?_)))
  refine wpAny_list_append_plain (l.at fun o e => k₁.kp _ o e) (fun h₃ l₃ s₃ => ?_) (by rw [sizeLine_eq]; omega)
  exact q v s₁ h₃ k₁ r l₃ fun b o hb e => s₃.extBut b o hb e
/-- a for over ints, with facts of one's own about the heap -/
theorem for_raw {x : Str} {xp pos : Pos} {iter : Expr} {body : List Stmt} {n : Nat} {s : Shared} {Q : Flow → Shared → Prop} {E : Value → Shared → Prop} (hx : Stb env x) (I : InvC W k O₀ env ρ O m ad s.heap)
    (J : Nat → Store → Prop) (X : Nat → (Addr → Prop) → (Str → Option Value) → (Str → Addr) → Heap → Prop)
    (hX : ∀ i O m m' ad h h', X i O m ad h → KpS h h' → (∀ y w, y ≠ x → Nm env m h y w → Nm env m' h' y w) → X i O m' ad h')
    (j0 : J 0 ρ) (x0 : X 0 O m ad s.heap)
    (hi : ITn W A env ρ iter fun ds => ds.length = n ∧ ∀ i d k s ρ' O m ad, ds[i]? = some d → J i ρ' → InvC W k O₀ env ((x, .sh d) :: ρ') O m ad s.heap → X i O m ad s.heap → ∀ (Q : Flow → Shared → Prop) (E : Value → Shared → Prop),
      (∀ s' ρ'' O' m' ad', Mo s s' → J (i + 1) ρ'' → InvC W k O₀ env ρ'' O' m' ad' s'.heap → X (i + 1) O' m' ad' s'.heap → Q .next s') → wpAny (model W.prog W.w) A (execs body env) Q E s)
    (done : ∀ s' ρ' O' m' ad', Mo s s' → J n ρ' → InvC W k O₀ env ρ' O' m' ad' s'.heap → X n O' m' ad' s'.heap → Q .next s')
    (hs : ∀ x, foldedSetIterable iter env x = pure x := by intro _; rfl) : wpAny (model W.prog W.w) A (exec (.For (.Name x xp) iter body [] pos) env) Q E s := by
  refine wpAny_For (hi s O m I.rd _ _ fun It fp ds Pv St s₁ k₁ hfp Wk st hEx hIs hit p => ?_) hs
  obtain ⟨rfl, turn⟩ := p
  have kfp : ∀ a ∈ fp, k a = none := fun a ha => I.kfresh (hfp a ha)
  have Lfp : env.locals ∉ fp := fun q => by
    obtain ⟨o, _, _, e, _⟩ := I.rd.ns
    rw [hfp _ q] at e; cases e
  have cfp : ∀ y c, env.cells.lookup y = some c → c ∉ fp := fun y c hm q => by
    obtain ⟨v, o, e, _⟩ := (I.kc y c hm).2
    rw [hfp _ q] at e; cases e
  have O₀fp : ∀ a ∈ fp, ¬ O₀ a := fun a ha q => by
    obtain ⟨o, e⟩ := I.rd.al a (I.sub a q)
    rw [hfp _ ha] at e; cases e
  have Ifp : It ∈ fp := Wk.sub It List.mem_cons_self
  have nmI : ∀ {m : Str → Option Value} {h h' : Heap}, (∀ b o, b ≠ It → h.get? b = some o → h'.get? b = some o) → ∀ y w, Nm env m h y w → Nm env m h' y w := by
    intro m h h' b y w n
    rcases n with ⟨a, g⟩ | ⟨a, c, g, o, e, d⟩
    · exact .inl ⟨a, g⟩
    · exact .inr ⟨a, c, g, o, b c o (fun q => cfp y c g (q ▸ Ifp)) e, d⟩
  refine codeAny_forLoop (fun n s' => ∃ i ρ' O m ad, Mo s s' ∧ i ≤ ds.length ∧ n = ds.length + 1 - i ∧ St i s'.heap ∧ J i ρ' ∧ InvC W k O₀ env ρ' O m ad s'.heap ∧ X i O m ad s'.heap ∧ ∀ a ∈ fp, ¬ O a) ?_ (ds.length + 1)
    ⟨0, ρ, O, m, ad, k₁.mo, Nat.zero_le _, rfl, st, j0, I.keeps k₁.kp, hX _ _ _ _ _ _ _ x0 k₁.kp.s fun y w _ n => n.keeps k₁.kp, fun a ha q => I.rd.fresh (hfp a ha) q⟩
  rintro n s' ⟨i, ρ', O', m', ad', sm, hi', rfl, hst', hj, I', hx', O'fp⟩
  obtain ⟨oI, eI, nI⟩ := hIs i s'.heap hst'
  by_cases hlt : i < ds.length
  · have hd : ds[i]? = some ds[i] := List.getElem?_eq_getElem hlt
    generalize ds[i] = d at hd
    refine Wk.item i _ _ _ hlt hst' fun v h₂ t₂ hPv hst₂ hk₂ => ?_
    have b₂ : ∀ b o, b ≠ It → s'.heap.get? b = some o → h₂.get? b = some o := fun b o hb e => hk₂ b o (by simpa using hb) e
    have I₂ := I'.butNs ⟨oI, eI, nI⟩ (kfp It Ifp) (fun q => Lfp (q ▸ Ifp)) (fun y c hm q => cfp y c hm (q ▸ Ifp)) (O'fp It Ifp) b₂
    have x₂ := hX _ _ _ m' _ _ h₂ hx' (kps_but ⟨oI, eI, nI⟩ b₂) fun y w _ n => nmI b₂ y w n
    have I₂' := I₂.withK Lfp cfp O'fp kfp
    refine wpAny_assign_Name (st_core I₂' hx fun h₃ t₃ m₃ T S => ?_)
    have I₃ := I₂'.stored S (hit i v d hd hPv O' h₂)
    have x₃ := hX _ _ _ m₃ _ _ h₃ x₂ S.kps fun y w hy n => S.others y w hy n
    have st₃ : St (i + 1) h₃ := Wk.frame _ _ _ hst₂ fun b hb o e => S.but b o (fun q => by
      rcases S.wh with w | ⟨y, w⟩
      · exact Lfp (w ▸ q ▸ hb)
      · exact cfp y T w (q ▸ hb)) e
    refine turn i d _ _ ρ' O' m₃ ad' hd hj I₃ x₃ _ _ fun s₄ ρ'' O₄ m₄ ad₄ sm₄ j₄ I₄ x₄ => ?_
    have smm : Mo s s₄ := (sm.trans (Mo.trans .of .of)).trans sm₄
    refine ⟨ds.length + 1 - (i + 1), by omega, i + 1, ρ'', O₄, m₄, ad₄, smm, hlt, rfl, Wk.frame _ _ _ hst₂ fun b hb o e => I₄.kk b o (by simp only [if_pos hb]; exact e), j₄, I₄.backK kfp I.kb, x₄, fun a ha q => ?_⟩
    rcases I₄.okk a q with z | z
    · exact O₀fp a ha z
    · simp only [if_pos ha] at z
      obtain ⟨o, e⟩ := hEx (i + 1) h₂ hst₂ a ha
      rw [e] at z; cases z
  · obtain rfl : i = ds.length := Nat.le_antisymm hi' (Nat.not_lt.mp hlt)
    refine Wk.done _ _ _ hst' fun h₂ t₂ hk₂ => ?_
    have b₂ : ∀ b o, b ≠ It → s'.heap.get? b = some o → h₂.get? b = some o := fun b o hb e => hk₂ b o (by simpa using hb) e
    have I₂ := I'.butNs ⟨oI, eI, nI⟩ (kfp It Ifp) (fun q => Lfp (q ▸ Ifp)) (fun y c hm q => cfp y c hm (q ▸ Ifp)) (O'fp It Ifp) b₂
    exact wpAny_execs_nil (done _ ρ' O' m' ad' (sm.trans .of) hj I₂ (hX _ _ _ m' _ _ h₂ hx' (kps_but ⟨oI, eI, nI⟩ b₂) fun y w _ n => nmI b₂ y w n))
end
end Mine

set_option maxRecDepth 100000
set_option autoImplicit false
set_option linter.unusedVariables false
namespace Mine
open PySem PySem.W PySem.Calls PyProof.Rows PySem.Spec
/-- the reader: script[i], or i -/
def cellw (ns : List Int) (i : Int) : Int := ns.getD i.toNat i
theorem cell13 {W : Wd} {f : Addr} (D : W.Df (fdef p13 3) f) (hlen : W.Gl "len" (.builtin "len")) (ns : List Int) (hn : ns.length ≤ 63) (i : Int) (h0 : 0 ≤ i) (h1 : i < 2 ^ 20) : FN W 1 f [.list (ns.map .int), .int i] fun d => d = .int (cellw ns i) := by
  obtain ⟨hg, pm, code, doc, hf⟩ := D
  refine fn_of hf (names := ["script", "i"]) (defOk rfl rfl rfl (fun vs h => match vs, h with | [_, _], _ => rfl) (by decide) rfl) rfl fun A L rm => ?_
  refine ex_cons (ex_if (tv_cmp (ev_name rfl (ev_len hlen (ev_name rfl ⟨by simp; omega, ?_⟩)))))
  refine co_lt ?_
  by_cases hi : i < (ns.length : Int)
  · rw [decide_eq_true (by simpa using hi)]
    refine ex_cons (ex_ret (ev_sub (ev_name rfl (ev_name rfl ⟨h0, by omega, .int (cellw ns i), ?_, rfl⟩))))
    have hlt : i.toNat < ns.length := by omega
    simp [cellw, List.getD, hlt]
  · rw [decide_eq_false (by simpa using hi)]
    refine ex_nil (ex_cons (ex_ret (ev_name rfl ?_)))
    have hge : ns.length ≤ i.toNat := by omega
    simp [cellw, List.getD, hge]
structure Facts13 (W : Wd) (fl fc ff : Addr) : Prop where
  law : W.Df (fdef p13 4) fl
  cell : W.Df (fdef p13 3) fc
  from_ : W.Df (fdef p13 1) ff
  len : W.Gl "len" (.builtin "len")
  range : W.Gl "range" (.type "range")
  type : W.Gl "type" (.type "type")
  int : W.Gl "int" (.type "int")
  list : W.Gl "list" (.type "list")
  tuple : W.Gl "tuple" (.type "tuple")
section
variable {W : Wd} {A : Around} {env : Env} {ρ : Store} {P : PyData → Prop} {O : Addr → Prop} {m : Str → Option Value}
theorem evf_call {n : Nat} {g : Str} {gp pos : Pos} {f : Addr} {fd : FuncData} {e : Expr} {es : List Expr} {s : Shared} {Q E : Value → Shared → Prop} (rm : Rm n A) (hg : W.Gl g (.ref f)) (hf : W.Fun f fd) (R : Rd W env ρ (fun _ => False) m s.heap) (h : EVs W A env ρ (e :: es) fun ds => FNf W n f ds P)
    (q : ∀ v d s', Mv s s' → Rp (fun a => ∃ o, s.heap.get? a = some o) s'.heap v d → P d → Q v s')
    (hk : env.kindOf g = some .globalImplicit := by rfl) (he : starEach (e :: es) env = (false, eval e env) :: starEach es env := by rfl) (hd : (g == ("__debug__" : Str)) = false := by decide) :
    wpAny (model W.prog W.w) A (eval (.Call (.Name g gp) (e :: es) [] pos) env) Q E s := by
  refine wpAny_Call_NameR (gname R hg hk (call_args R hf h (fun vs ds s₁ k₁ r p => ?_) he) hd)
  exact p A _ vs rm (R.gr.trans k₁.kp) r _ _ fun v d s₂ k₂ rv pv => q v d s₂ (k₁.trans k₂) (rv.weak fun a ⟨o, e⟩ => ⟨o, k₁.kp a o e⟩) pv
theorem EVo.use {e : Expr} {P : List PyData → Prop} {s : Shared} {Q E : Value → Shared → Prop} (x : EVo W A env ρ e P) (R : Rd W env ρ O m s.heap)
    (q : ∀ D vs ds s', s.heap.get? D = none → Mv s s' → s'.heap.PlainList D vs.toArray → RpAll (fun a => O a ∨ a = D) s'.heap vs ds → P ds → Q (.ref D) s') : wpAny (model W.prog W.w) A (eval e env) Q E s := x s O m R Q E q
end
/-- rows laid at addresses -/
def RowsAt (h : Heap) (T K : Addr) (rs : List Addr) (rows : List (List Int)) : Prop :=
  rs.length = rows.length ∧ ∀ (j : Nat) (r : Addr) (row : List Int), rs[j]? = some r → rows[j]? = some row → r ≠ T ∧ K ≠ r ∧ ∃ vs : List Value, h.PlainList r vs.toArray ∧ ∀ O h, RpAll O h vs (row.map .int)
theorem RowsAt.kps {h h' : Heap} {T K : Addr} {rs : List Addr} {rows : List (List Int)} (x : RowsAt h T K rs rows) (k : KpS h h') : RowsAt h' T K rs rows :=
  ⟨x.1, fun j r row a b => let ⟨c, d, vs, l, i⟩ := x.2 j r row a b; ⟨c, d, vs, k.plain l, i⟩⟩
theorem RowsAt.but {h h' : Heap} {T K a : Addr} {rs : List Addr} {rows : List (List Int)} (x : RowsAt h T K rs rows) (ha : a = T ∨ a = K) (b : ∀ b o, b ≠ a → h.get? b = some o → h'.get? b = some o) : RowsAt h' T K rs rows :=
  ⟨x.1, fun j r row p q => let ⟨c, d, vs, l, i⟩ := x.2 j r row p q; ⟨c, d, vs, l.at fun o e => b r o (fun z => ha.elim (fun w => c (z.trans w)) fun w => d (w.symm.trans z.symm)) e, i⟩⟩
theorem RowsAt.add {h : Heap} {T K r : Addr} {rs : List Addr} {rows : List (List Int)} {row : List Int} {vs : List Value} (x : RowsAt h T K rs rows) (h1 : r ≠ T) (h2 : K ≠ r) (l : h.PlainList r vs.toArray) (i : ∀ O h, RpAll O h vs (row.map .int)) : RowsAt h T K (rs ++ [r]) (rows ++ [row]) := by
  refine ⟨by simp [x.1], fun j r' row' a b => ?_⟩
  by_cases hj : j < rs.length
  · rw [List.getElem?_append_left hj] at a
    rw [List.getElem?_append_left (by rw [← x.1]; exact hj)] at b
    exact x.2 j r' row' a b
  · have hj' : rs.length ≤ j := Nat.not_lt.mp hj
    rw [List.getElem?_append_right hj'] at a
    rw [List.getElem?_append_right (by rw [← x.1]; exact hj')] at b
    rw [← x.1] at b
    cases hz : j - rs.length with
    | zero =>
      rw [hz] at a b
      cases a; cases b
      exact ⟨h1, h2, vs, l, i⟩
    | succ z => rw [hz] at a; cases a
theorem RowsAt.reads {h : Heap} {T K : Addr} : ∀ {rs : List Addr} {rows : List (List Int)}, RowsAt h T K rs rows → RpAll (fun _ => False) h (rs.map Value.ref) (rows.map rowD)
  | [], [], _ => .nil
  | [], _ :: _, x => by cases x.1
  | _ :: _, [], x => by cases x.1
  | r :: rs, row :: rows, x => by
    obtain ⟨_, _, vs, l, i⟩ := x.2 0 r row rfl rfl
    exact .cons (Rp.of_list l.isList (i _ _) fun q => q) (RowsAt.reads ⟨by simpa using x.1, fun j r' row' a b => x.2 (j + 1) r' row' (by simpa using a) (by simpa using b)⟩)
def X13 (env : Env) (O₀ : Addr → Prop) (rows : List (List Int)) (O : Addr → Prop) (m : Str → Option Value) (ad : Str → Addr) (h : Heap) : Prop :=
  ∃ (T L : Addr) (rs : List Addr) (lt : Array Value), Nm env m h "table" (.ref T) ∧ Nm env m h "last" (.ref L) ∧ (O T ∧ ¬ O₀ T ∧ ad "keep" ≠ T ∧ h.PlainList T (rs.map Value.ref).toArray) ∧ (O L ∧ ¬ O₀ L ∧ ad "keep" ≠ L ∧ L ≠ T ∧ h.PlainList L lt ∧ lt.size ≤ 100) ∧ RowsAt h T (ad "keep") rs rows
theorem X13.stable {env : Env} {O₀ : Addr → Prop} {rows : List (List Int)} {O : Addr → Prop} {m m' : Str → Option Value} {ad : Str → Addr} {h h' : Heap} (x : X13 env O₀ rows O m ad h) (k : KpS h h') (n : ∀ (y : Str) (w : Value), y ≠ ("i" : Str) → Nm env m h y w → Nm env m' h' y w) : X13 env O₀ rows O m' ad h' := by
  obtain ⟨T, L, rs, lt, n1, n2, ⟨a1, a2, a3, a4⟩, ⟨b1, b2, b3, b4, b5, b6⟩, c⟩ := x
  exact ⟨T, L, rs, lt, n _ _ (by decide) n1, n _ _ (by decide) n2, ⟨a1, a2, a3, k.plain a4⟩, ⟨b1, b2, b3, b4, k.plain b5, b6⟩, c.kps k⟩
end Mine

set_option maxRecDepth 100000
set_option autoImplicit false
set_option linter.unusedVariables false
namespace Mine
open PySem PySem.W PySem.Calls PyProof.Rows PySem.Spec
/-- row i of the table -/
def rowv (ns : List Int) (w : Int) (i : Nat) : List Int := (List.range w.toNat).map fun (j : Nat) => cellw ns (2 + (i : Int) * w + (j : Int))
def rowsUp (ns : List Int) (w : Int) (n : Nat) : List (List Int) := (List.range n).map (rowv ns w)
theorem rowsUp_succ (ns : List Int) (w : Int) (n : Nat) : rowsUp ns w (n + 1) = rowsUp ns w n ++ [rowv ns w n] := by simp [rowsUp, List.range_succ]
def st13 (ns : List Int) (w n : Int) (i : Nat) : Store := [("keep", .own true ((rowsUp ns w i).map rowD)), ("width", .sh (.int w)), ("height", .sh (.int n)), ("script", .sh (.list (ns.map .int)))]
open PySem.Builtin.Int in
theorem small_bits {x : Int} (h0 : 0 ≤ x) (h1 : x < 64) : intBits x ≤ 6 := intBits_le_iff.mpr (by omega)
theorem SubS.tl {x : Str} {sl : Slot} {ρ : Store} (h : SubS ρ ρ) (hx : ρ.lookup x = none) : SubS ρ ((x, sl) :: ρ) := by
  have : ∀ ρ' : Store, SubS ρ' ρ → SubS ρ' ((x, sl) :: ρ) := by
    intro ρ'
    induction ρ' with
    | nil => intro _; trivial
    | cons p r ih =>
      obtain ⟨y, s⟩ := p
      rintro ⟨a, b⟩
      refine ⟨?_, ih b⟩
      by_cases q : y = x
      · subst q; rw [hx] at a; cases a
      · rw [lookup_ne q]; exact a
  exact this ρ h
open PySem.Builtin.Int in
theorem turn13 {W : Wd} {fl fc ff : Addr} (F : Facts13 W fl fc ff) (ns : List Int) (hn : ns.length ≤ 63) {A : Around} {L : Addr} {pm code doc : Value} (rm : Rm 4 A) (w n : Int) (w0 : 0 ≤ w) (w1 : w < 6) (n1 : n < 5) {k : Addr → Option Obj} {O₀ O : Addr → Prop} {m : Str → Option Value} {ad : Str → Addr} {s : Shared} (i : Nat) (hi : (i : Int) < n)
    {body : List Stmt} (hb : body = (match (fdef p13 4).body[5]? with | some (Stmt.For _ _ b _ _) => b | _ => []))
    (I : InvC W k O₀ (callEnvC (fdOf (fdef p13 4) pm code doc) L fl) (("i", .sh (.int (0 + (i : Int)))) :: st13 ns w n i) O m ad s.heap) (x : X13 (callEnvC (fdOf (fdef p13 4) pm code doc) L fl) O₀ (rowsUp ns w i) O m ad s.heap) (Q : Flow → Shared → Prop) (E : Value → Shared → Prop)
    (q : ∀ s' O' m' ad', Mo s s' → InvC W k O₀ (callEnvC (fdOf (fdef p13 4) pm code doc) L fl) (st13 ns w n (i + 1)) O' m' ad' s'.heap → X13 (callEnvC (fdOf (fdef p13 4) pm code doc) L fl) O₀ (rowsUp ns w (i + 1)) O' m' ad' s'.heap → Q .next s') :
    wpAny (model W.prog W.w) A (execs body (callEnvC (fdOf (fdef p13 4) pm code doc) L fl)) Q E s := by
  subst hb
  obtain ⟨hgc, pmc, codec, docc, hfc⟩ := id F.cell
  have cell : ∀ i : Int, 0 ≤ i → i < 2 ^ 20 → FN W 4 fc [.list (ns.map .int), .int i] fun d => d = .int (cellw ns i) := fun i h0 h1 => (cell13 F.cell F.len ns hn i h0 h1).up (by decide)
  have hm0 : (0 + (i : Int)) * w = (i : Int) * w := by rw [Int.zero_add]
  have hm1 : 0 ≤ (i : Int) * w := Int.mul_nonneg (by omega) w0
  have hm2 : (i : Int) * w ≤ 4 * 5 := Int.mul_le_mul (by omega) (by omega) w0 (by omega)
  refine wpAny_execs_cons (assign_comp_raw (fr := ["i", "script", "width"]) (P := fun ds => ds = (rowv ns w i).map .int) I rfl (compOk rfl rfl (by decide) (fun _ => rfl) fun _ => ⟨⟨by decide, rfl, rfl, rfl⟩, ⟨by decide, rfl, rfl, rfl⟩, ⟨by decide, rfl, rfl, rfl⟩, trivial⟩) (onInt fun j => .int (cellw ns (2 + (i : Int) * w + j))) (fun _ => true)
    (it_range1 rm.hh F.range (ev_name rfl ⟨by omega, by omega, fun d hd _ => ⟨rfl, fun _ => ?_⟩, ?_⟩)) fun D ds s₁ m₁ hp hD mo₁ ks nm₁ I₁ => ?_)
  · obtain ⟨j, rfl, j0, j1⟩ := rangeL_mem hd
    refine ev_call rm hgc hfc (evs_cons (ev_name rfl (evs_cons (ev_bin (ev_bin (ev_int (ev_bin (ev_name rfl (ev_name rfl (bo_mul (IntMulOk.of_le (small_bits (by omega) (by omega)) (small_bits w0 (by omega)) (by decide)) (bo_add (ev_name rfl (bo_add (evs_nil ?_))))))))))))))
    rw [hm0]
    exact (cell (2 + (i : Int) * w + j) (by omega) (by omega)).mono fun d e => e
  · rw [filtT]
    unfold rowv rangeL
    rw [List.map_map, List.map_map]
    have e0 : (w - 0).toNat = w.toNat := by omega
    rw [e0]
    refine List.map_congr_left fun j _ => ?_
    simp [onInt]
  subst hp
  obtain ⟨T, L', rs, lt, n1', n2', ⟨a1, a2, a3, a4⟩, ⟨b1, b2, b3, b4, b5, b6⟩, c⟩ := x
  obtain ⟨vs, nl, oD, nD, kD, lD, rD⟩ := I₁.ow "last" true _ rfl
  have eD : (if ("last" : Str) = "last" then D else ad "last") = D := if_pos rfl
  have eK : (if ("keep" : Str) = "last" then D else ad "keep") = ad "keep" := if_neg (by decide)
  change Nm _ m₁ s₁.heap "last" (.ref D) at nl
  have hints : ∀ O h, RpAll O h vs ((rowv ns w i).map .int) := fun O h => rD.ints
  have nT := nm₁ "table" (.ref T) (by decide) n1'
  have lT := ks.plain a4
  have hDT : D ≠ T := fun z => by
    obtain ⟨_, e⟩ := a4
    rw [← z, hD] at e; cases e
  have I₂ := I₁.weak (ρ' := st13 ns w n i) ⟨rfl, rfl, rfl, rfl, trivial⟩
  obtain ⟨kvs, nk, oK, nK, kK, lK, rK⟩ := I₂.ow "keep" true _ rfl
  simp only [eK] at nk oK nK kK lK
  obtain ⟨oK0, eK0⟩ : ∃ o, s.heap.get? (ad "keep") = some o := by
    obtain ⟨_, _, _, _, _, l, _⟩ := I.ow "keep" true _ rfl
    obtain ⟨_, e⟩ := l
    exact ⟨_, e⟩
  have hDK : ad "keep" ≠ D := fun z => by
    rw [z, hD] at eK0; cases eK0
  have c₁ := c.kps ks
  have hrl : (rowv ns w i).length ≤ 5 := by unfold rowv; simp; omega
  have hrs : rs.length = i := by rw [c.1]; simp [rowsUp]
  refine wpAny_execs_cons (append_nm (R := fun v t => v = .ref D ∧ t = s₁) I₁.rd.fn I₁.rd.ns nT lT (by simp; omega) (fun Q' E' q' => load_nm I₁.rd.fn I₁.rd.ns nl (by decide) (q' _ _ (.refl _) ⟨rfl, rfl⟩)) ?_)
  rintro v t h₃ mv₃ ⟨rfl, rfl⟩ l₃ b₃
  have I₃ : InvC W k O₀ (callEnvC (fdOf (fdef p13 4) pm code doc) L fl) (st13 ns w n i) (fun a => O a ∨ a = D) m₁ (fun z => if z = "last" then D else ad z) h₃ := I₂.mutO (.inl a1) a2 lT (fun y pl es hy z => by
    unfold st13 at hy
    by_cases q1 : y = "keep"
    · subst q1; simp only [eK] at z; exact a3 z
    · rw [lookup_ne q1] at hy
      by_cases q2 : y = "width"
      · subst q2; cases hy
      · rw [lookup_ne q2] at hy
        by_cases q3 : y = "height"
        · subst q3; cases hy
        · rw [lookup_ne q3] at hy
          by_cases q4 : y = "script"
          · subst q4; cases hy
          · rw [lookup_ne q4] at hy; cases hy) b₃ (let ⟨_, e⟩ := l₃; ⟨_, e⟩)
  have lD₃ : h₃.PlainList D vs.toArray := (show t.heap.PlainList D vs.toArray from lD).at fun o e => b₃ D o hDT e
  have c₃ : RowsAt h₃ T (ad "keep") (rs ++ [D]) (rowsUp ns w (i + 1)) := by
    rw [rowsUp_succ]
    exact (c₁.but (.inl rfl) b₃).add hDT hDK lD₃ hints
  have nT₃ : Nm (callEnvC (fdOf (fdef p13 4) pm code doc) L fl) m₁ h₃ "table" (.ref T) := by
    rcases nT with ⟨a, b⟩ | ⟨a, _⟩
    · exact .inl ⟨a, b⟩
    · exact absurd (show some NameKind.local = some NameKind.cell from a) (by decide)
  have nL₃ : Nm (callEnvC (fdOf (fdef p13 4) pm code doc) L fl) m₁ h₃ "last" (.ref D) := by
    rcases nl with ⟨a, b⟩ | ⟨a, _⟩
    · exact .inl ⟨a, b⟩
    · exact absurd (show some NameKind.local = some NameKind.cell from a) (by decide)
  obtain ⟨kvs, nk, oK, nK, kK, lK, rK⟩ := I₃.ow "keep" true _ rfl
  simp only [eK] at nk oK nK kK lK
  have hkl : kvs.length = i := by rw [rK.length]; simp [rowsUp]
  have Rl : Rd W (callEnvC (fdOf (fdef p13 4) pm code doc) L fl) [("last", .sh (rowD (rowv ns w i)))] (fun _ => False) m₁ h₃ := Rd.bind ⟨I₃.rd.fn, I₃.rd.gl, I₃.rd.bi, I₃.rd.ns, fun x d e => (nomatch e), fun a q => q.elim, I₃.rd.gr⟩ nL₃ (Rp.of_list lD₃.isList (hints _ _) fun q => q)
  refine wpAny_execs_cons (append_nm (R := fun v t => Rp (fun a => O a ∨ a = D) t.heap v (rowD (rowv ns w i))) I₃.rd.fn I₃.rd.ns nk lK (by simp; omega) (fun Q' E' q' => ?_) ?_)
  · refine EVo.use (P := fun ds => ds = (rowv ns w i).map .int) (evo_slice (ev_name (d := .list ((rowv ns w i).map .int)) rfl ⟨by simp; omega, rfl⟩)) Rl fun D' us ds s₄ hD' mv hl r p => ?_
    subst p
    refine q' _ _ mv (Rp.of_list hl.isList r.ints fun z => ?_)
    obtain ⟨o, e⟩ := I₃.rd.al D' z
    rw [show h₃.get? D' = none from hD'] at e; cases e
  rintro v t₄ h₅ mv₅ rv l₅ b₅
  have k₄ : Kp h₃ t₄.heap := mv₅.kp
  have I₄ := I₃.keeps k₄
  obtain ⟨kvs', nk', oK', nK', kK', lK', rK'⟩ := I₄.ow "keep" true _ rfl
  have I₅ := I₄.changed (x := "keep") (pl' := true) (h' := h₅) (vs' := kvs ++ [v]) (ds' := (rowsUp ns w i).map rowD ++ [rowD (rowv ns w i)]) rfl (by simp only [eK]; exact b₅) (by
    have l6 : h₅.PlainList (ad "keep") (kvs ++ [v]).toArray := by simpa using l₅
    simp only [eK]; exact l6) (by
    obtain ⟨n5, e5⟩ := lK
    exact ((rK.keeps k₄).append (.cons rv .nil)).butOwn (k₄ _ _ e5) rfl oK b₅)
  refine wpAny_execs_nil (q _ _ m₁ (fun z => if z = "last" then D else ad z) ((mo₁.trans .heap).trans (mv₅.mo.trans .heap)) (I₅.weak (ρ' := st13 ns w n (i + 1)) ⟨?_, rfl, rfl, rfl, trivial⟩) ?_)
  · rw [rowsUp_succ, List.map_append]; rfl
  · have nm₅ : ∀ y v, (callEnvC (fdOf (fdef p13 4) pm code doc) L fl).kindOf y = some NameKind.local → Nm (callEnvC (fdOf (fdef p13 4) pm code doc) L fl) m₁ h₃ y v → Nm (callEnvC (fdOf (fdef p13 4) pm code doc) L fl) m₁ h₅ y v := fun y v hy nn => by
      rcases nn with ⟨a, b⟩ | ⟨a, _⟩
      · exact .inl ⟨a, b⟩
      · rw [hy] at a; cases a
    refine ⟨T, D, rs ++ [D], vs.toArray, nm₅ _ _ rfl nT₃, nm₅ _ _ rfl nL₃, ⟨.inl a1, a2, by simp only [eK]; exact a3, ?_⟩, ⟨.inr rfl, nD, by simp only [eK]; exact hDK, hDT, ?_, ?_⟩, ?_⟩
    · have l6 : h₅.PlainList T ((rs.map Value.ref).toArray.push (.ref D)) := l₃.at fun o e => b₅ T o (Ne.symm a3) (k₄ _ _ e)
      simpa using l6
    · exact lD₃.at fun o e => b₅ D o (Ne.symm hDK) (k₄ _ _ e)
    · rw [List.size_toArray, (hints (fun _ => False) h₃).length]; simp; omega
    · simp only [eK]
      exact (c₃.kps k₄.s).but (.inr rfl) b₅
end Mine

set_option maxRecDepth 100000
set_option autoImplicit false
set_option linter.unusedVariables false
namespace Mine
open PySem PySem.W PySem.Calls PyProof.Rows PySem.Spec
theorem rowsUp_get {ns : List Int} {w : Int} {n i : Nat} (h : i < n) : (rowsUp ns w n)[i]? = some (rowv ns w i) := by
  unfold rowsUp
  rw [List.getElem?_map, List.getElem?_range h]; rfl
theorem rowv_get {ns : List Int} {w : Int} {i j : Nat} (h : j < w.toNat) : (rowv ns w i)[j]? = some (cellw ns (2 + (i : Int) * w + (j : Int))) := by
  unfold rowv
  rw [List.getElem?_map, List.getElem?_range h]; rfl
theorem st13_keep {ns : List Int} {w n : Int} {i : Nat} {y : Str} {pl : Bool} {es : List PyData} (hy : (st13 ns w n i).lookup y = some (.own pl es)) : y = "keep" := by
  unfold st13 at hy
  by_cases q1 : y = "keep"
  · exact q1
  · rw [lookup_ne q1] at hy
    by_cases q2 : y = "width"
    · subst q2; cases hy
    · rw [lookup_ne q2] at hy
      by_cases q3 : y = "height"
      · subst q3; cases hy
      · rw [lookup_ne q3] at hy
        by_cases q4 : y = "script"
        · subst q4; cases hy
        · rw [lookup_ne q4] at hy; cases hy
open PySem.Builtin.Int in
theorem law13 {W : Wd} {fl fc ff : Addr} (F : Facts13 W fl fc ff) (ns : List Int) (hn : ns.length ≤ 63) : FN W 5 fl [.list (ns.map .int)] fun d => d = .bool true := by
  obtain ⟨hg, pm, code, doc, hf⟩ := F.law
  refine fn_of hf (names := ["script"]) (defOk rfl rfl rfl (fun vs h => match vs, h with | [_], _ => rfl) (by decide) rfl) rfl fun A L rm => ?_
  obtain ⟨hgc, pmc, codec, docc, hfc⟩ := id F.cell
  obtain ⟨hgf, pmf, codef, docf, hff⟩ := id F.from_
  have cell : ∀ i : Int, 0 ≤ i → i < 2 ^ 20 → FN W 4 fc [.list (ns.map .int), .int i] fun d => d = .int (cellw ns i) := fun i h0 h1 => (cell13 F.cell F.len ns hn i h0 h1).up (by decide)
  refine ex_cons (ex_assign (.inl rfl) (ev_bin (ev_call rm hgc hfc (evs_cons (ev_name rfl (evs_cons (ev_int (evs_nil ((cell 0 (by decide) (by decide)).mono fun d e => ?_)))))))))
  subst e
  refine ev_int (bo_mod (by decide) ?_)
  have n0 := Int.fmod_nonneg_of_pos (cellw ns 0) (b := 5) (by decide)
  have n1 := Int.fmod_lt_of_pos (cellw ns 0) (b := 5) (by decide)
  generalize (cellw ns 0).fmod 5 = n at n0 n1
  refine ex_cons (ex_assign (.inr ⟨rfl, _, rfl⟩) (ev_bin (ev_call rm hgc hfc (evs_cons (ev_name rfl (evs_cons (ev_int (evs_nil ((cell 1 (by decide) (by decide)).mono fun d e => ?_)))))))))
  subst e
  refine ev_int (bo_mod (by decide) ?_)
  have w0 := Int.fmod_nonneg_of_pos (cellw ns 1) (b := 6) (by decide)
  have w1 := Int.fmod_lt_of_pos (cellw ns 1) (b := 6) (by decide)
  generalize (cellw ns 1).fmod 6 = w at w0 w1
  refine ex_cons (ex_assign_own (.inl rfl) (evo_list (evs_nil ⟨by simp, ?_⟩)))
  refine ex_cons (ex_assign_own (.inl rfl) (evo_list (evs_nil ⟨by simp, ?_⟩)))
  refine ex_cons (ex_assign_own (.inl rfl) (evo_list (evs_nil ⟨by simp, ?_⟩)))
  intro k O₀ s I Q E f
  obtain ⟨O, m, ad, I⟩ := I
  obtain ⟨tvs, tn, tO, tN, tk, tl, tr⟩ := I.ow "table" true _ rfl
  obtain ⟨lvs, ln, lO, lN, lk, ll, lr⟩ := I.ow "last" true _ rfl
  have hKT : ad "keep" ≠ ad "table" := fun z => absurd (I.inj "keep" "table" _ _ _ _ rfl rfl z) (by decide)
  have hKL : ad "keep" ≠ ad "last" := fun z => absurd (I.inj "keep" "last" _ _ _ _ rfl rfl z) (by decide)
  have hLT : ad "last" ≠ ad "table" := fun z => absurd (I.inj "last" "table" _ _ _ _ rfl rfl z) (by decide)
  have etv : tvs = [] := List.eq_nil_of_length_eq_zero tr.length
  have elv : lvs = [] := List.eq_nil_of_length_eq_zero lr.length
  subst etv elv
  have x0 : X13 (callEnvC (fdOf (fdef p13 4) pm code doc) L fl) O₀ (rowsUp ns w 0) O m ad s.heap := ⟨ad "table", ad "last", [], _, tn, ln, ⟨tO, tN, hKT, tl⟩, ⟨lO, lN, hKL, hLT, ll, by simp⟩, rfl, fun j r row a b => (nomatch a)⟩
  have I₀ := I.weak (ρ' := st13 ns w n 0) ⟨rfl, rfl, rfl, rfl, trivial⟩
  refine wpAny_execs_cons (for_raw (n := n.toNat) (.inr ⟨rfl, _, rfl⟩) I₀ (fun i ρ' => ρ' = st13 ns w n i) (fun i => X13 _ O₀ (rowsUp ns w i)) (fun i O m m' ad h h' x k n => x.stable k n) rfl x0 (itn_range1 rm.hh F.range (ev_name rfl ⟨by omega, by omega, ?_, ?_⟩)) ?_)
  · rw [rangeL_length]; omega
  · rintro i d k' s' ρ' O' m' ad' hd rfl I' x' Q' E' q'
    obtain ⟨rfl, hi1, hi2⟩ := rangeL_get hd
    exact turn13 F ns hn rm w n w0 w1 n1 i (by omega) rfl I' x' Q' E' fun s'' O'' m'' ad'' mo I'' x'' => q' s'' _ O'' m'' ad'' mo rfl I'' x''
  rintro s₁ _ O₁ m₁ ad₁ mo₁ rfl I₁ x₁
  clear x0 I₀ I tn tO tN tk tl tr ln lO lN lk ll lr hKT hKL hLT
  obtain ⟨T, L', rs, lt, nT, nL, ⟨a1, a2, a3, a4⟩, ⟨b1, b2, b3, b4, b5, b6⟩, c⟩ := x₁
  have hrl : ∀ r ∈ rowsUp ns w n.toNat, r.length ≤ 5 := fun r hr => by
    obtain ⟨i, _, rfl⟩ := List.mem_map.mp hr
    unfold rowv; simp; omega
  have hrn : (rowsUp ns w n.toNat).length ≤ 5 := by unfold rowsUp; simp; omega
  have R0 : Rd W (callEnvC (fdOf (fdef p13 4) pm code doc) L fl) [] (fun _ => False) m₁ s₁.heap := ⟨I₁.rd.fn, I₁.rd.gl, I₁.rd.bi, I₁.rd.ns, fun x d e => (nomatch e), fun a q => q.elim, I₁.rd.gr⟩
  have rT : Rp (fun _ => False) s₁.heap (.ref T) (.list ((rowsUp ns w n.toNat).map rowD)) := Rp.of_list a4.isList c.reads fun q => q
  refine wpAny_execs_cons (wpAny_Assign_Name (evf_call (P := fun d => d = .list ((rowsUp ns w n.toNat).map outD)) rm hgf hff (R0.bind nT rT) (evs_cons (ev_name rfl (evs_nil ((from13 F.from_ (rowsUp ns w n.toNat) (by omega) (fun r hr => by have := hrl r hr; omega)).up (by decide))))) fun v d s₂ mv₂ rv e => ?_) rfl)
  subst e
  have rvO : Rp O₁ s₂.heap v (.list ((rowsUp ns w n.toNat).map outD)) := rv.weak fun a q => I₁.rd.al a q
  refine st_core (I₁.keeps mv₂.kp) (.inl rfl) fun h₃ t₃ m₃ T₃ S => ?_
  have I₃ := (I₁.keeps mv₂.kp).stored S rvO
  have nT₃ := S.others "table" _ (by decide) (nT.keeps mv₂.kp)
  have nL₃ := S.others "last" _ (by decide) (nL.keeps mv₂.kp)
  have ks : KpS s₁.heap h₃ := mv₂.kp.s.trans S.kps
  have a4₃ := ks.plain a4
  have b5₃ := ks.plain b5
  have c₃ := c.kps ks
  have mo₃ : Mo s { s₂ with heap := h₃, toks := t₃ } := (mo₁.trans mv₂.mo).trans .of
  clear nT nL a4 b5 c R0 rT I₁
  generalize hs3 : ({ s₂ with heap := h₃, toks := t₃ } : Shared) = s₃ at mo₃ ⊢
  have eh : h₃ = s₃.heap := by rw [← hs3]
  rw [eh] at I₃ nT₃ nL₃ a4₃ b5₃ c₃
  clear hs3 eh S ks
  obtain ⟨kvs, nk, oK, nK, kK, lK, rK⟩ := I₃.ow "keep" true _ rfl
  have rT : Rp (fun _ => False) s₃.heap (.ref T) (.list ((rowsUp ns w n.toNat).map rowD)) := Rp.of_list a4₃.isList c₃.reads fun q => q
  have rKp : Rp (fun _ => False) s₃.heap (.ref (ad₁ "keep")) (.list ((rowsUp ns w n.toNat).map rowD)) := Rp.of_list lK.isList (rK.weak fun a q => q.elim) fun q => q
  have R2 : Rd W (callEnvC (fdOf (fdef p13 4) pm code doc) L fl) [("table", .sh (.list ((rowsUp ns w n.toNat).map rowD))), ("keep", .sh (.list ((rowsUp ns w n.toNat).map rowD)))] (fun _ => False) m₃ s₃.heap := by
    refine ⟨I₃.rd.fn, I₃.rd.gl, I₃.rd.bi, I₃.rd.ns, fun y d e => ?_, fun a q => q.elim, I₃.rd.gr⟩
    by_cases q1 : y = "table"
    · subst q1; cases e; exact ⟨_, nT₃, rT⟩
    · rw [lookup_ne q1] at e
      by_cases q2 : y = "keep"
      · subst q2; cases e; exact ⟨_, nk, rKp⟩
      · rw [lookup_ne q2] at e; cases e
  have rows_ok : ∀ x ∈ (rowsUp ns w n.toNat).map rowD, x.depth ≤ 1 ∧ x.canLay0 = true := fun x hx => by
    obtain ⟨r, _, rfl⟩ := List.mem_map.mp hx
    refine ⟨depth_list (n := 0) fun y hy => ?_, canLayAll_of fun y hy => ?_⟩ <;> obtain ⟨z, _, rfl⟩ := List.mem_map.mp hy <;> simp [PyData.depth, PyData.canLay0]
  have er : PyData.eqv (.list ((rowsUp ns w n.toNat).map rowD)) (.list ((rowsUp ns w n.toNat).map rowD)) = true := PySem.SeqAt.eqv_refl _ (canLayAll_of fun x hx => (rows_ok x hx).2)
  refine wpAny_execs_cons (wpAny_If (TV.use (P := fun b => b = false) (tv_cmp (ev_name rfl (ev_name rfl (co_ne rm ?_ ?_)))) R2 fun b s₄ mv₄ e => ?_))
  · have := depth_list fun x hx => (rows_ok x hx).1
    omega
  · rw [er]; rfl
  subst e
  refine wpAny_execs_nil ?_
  have I₄ := I₃.keeps mv₄.kp
  have mo₄ := mo₃.trans mv₄.mo
  have nT₄ := nT₃.keeps mv₄.kp
  have nL₄ := nL₃.keeps mv₄.kp
  have a4₄ := mv₄.kp.s.plain a4₃
  have b5₄ := mv₄.kp.s.plain b5₃
  have hrs : rs.length ≤ 5 := by rw [c₃.1]; exact hrn
  have hne : ∀ (a : Addr), ad₁ "keep" ≠ a → ∀ (y : Str) (pl : Bool) (ds : List PyData), List.lookup y (((("got" : Str), Slot.sh (.list ((rowsUp ns w n.toNat).map outD))) :: st13 ns w n n.toNat : Store)) = some (.own pl ds) → ad₁ y ≠ a := fun a ha y pl ds hy => by
    by_cases q1 : y = ("got" : Str)
    · subst q1; cases hy
    · rw [lookup_ne q1] at hy
      rw [st13_keep hy]; exact ha
  refine wpAny_execs_cons (append_nm (R := fun _ _ => True) I₄.rd.fn I₄.rd.ns nL₄ b5₄ (by omega) (fun Q' E' q' => EV.use (P := fun _ => True) (ev_int trivial) I₄.rd fun v d s' mv r p => q' v s' mv trivial) ?_)
  rintro v s₅ h₆ mv₅ - l₆ bt₆
  have I₆ := (I₄.keeps mv₅.kp).mutO b1 b2 (b5₄.at fun o e => mv₅.kp _ o e) (hne L' b3) bt₆ (let ⟨_, e⟩ := l₆; ⟨_, e⟩)
  have a4₆ : h₆.PlainList T (rs.map Value.ref).toArray := (a4₄.at fun o e => mv₅.kp _ o e).at fun o e => bt₆ T o (Ne.symm b4) e
  have nT₆ : Nm (callEnvC (fdOf (fdef p13 4) pm code doc) L fl) m₃ h₆ "table" (.ref T) := by
    rcases nT₄ with ⟨a, b⟩ | ⟨a, _⟩
    · exact .inl ⟨a, b⟩
    · exact absurd (show some NameKind.local = some NameKind.cell from a) (by decide)
  refine wpAny_execs_cons (append_nm (s := { s₅ with heap := h₆ }) (R := fun _ _ => True) I₆.rd.fn I₆.rd.ns nT₆ a4₆ (by simp; omega) (fun Q' E' q' => EV.use (P := fun _ => True) (EV.of_own (evo_list (evs_cons (ev_int (evs_nil ⟨by simp, trivial⟩))))) I₆.rd fun v d s' mv r p => q' v s' mv trivial) ?_)
  rintro v' s₇ h₈ mv₇ - l₈ bt₈
  have I₈ := (I₆.keeps mv₇.kp).mutO a1 a2 (a4₆.at fun o e => mv₇.kp _ o e) (hne T a3) bt₈ (let ⟨_, e⟩ := l₈; ⟨_, e⟩)
  have mo₈ : Mo s { s₇ with heap := h₈ } := ((mo₄.trans (mv₅.mo.trans .heap)).trans mv₇.mo).trans .heap
  -- the rest
  have rest : EX W A (callEnvC (fdOf (fdef p13 4) pm code doc) L fl) (("got", Slot.sh (.list ((rowsUp ns w n.toNat).map outD))) :: st13 ns w n n.toNat) ((fdef p13 4).body.drop 10) (fun o => match o with | .ret d => d = .bool true | .next _ => PyData.none = .bool true | _ => False) := by
    refine ex_share "keep" rfl ?_
    refine ex_cons (ex_if (tv_not (tv_typeIs F.type F.list (ev_name rfl ⟨.inr (.inl rfl), ?_⟩))))
    refine ex_nil (ex_cons (ex_if (tv_cmp (ev_len F.len (ev_name rfl ⟨by simp; omega, ev_name rfl (co_neI ?_)⟩)))))
    have e1 : ((((rowsUp ns w n.toNat).map outD).length : Nat) : Int) = n := by unfold rowsUp; simp; omega
    rw [e1, bne_self_eq_false]
    refine ex_nil (ex_cons (ex_for (.inr ⟨rfl, _, rfl⟩) (itn_range1 rm.hh F.range (ev_name rfl ⟨by omega, by omega, ?_⟩))))
    refine ⟨fun i ρ' => SubS [("keep", .sh (.list ((rowsUp ns w n.toNat).map rowD))), ("got", .sh (.list ((rowsUp ns w n.toNat).map outD))), ("width", .sh (.int w))] ρ', ⟨rfl, rfl, rfl, trivial⟩, ?_, ?_⟩
    · rintro i d ρ' hd ⟨s1, s2, s3, _⟩
      obtain ⟨rfl, hi1, hi2⟩ := rangeL_get hd
      refine ex_weak (ρ' := [("i", .sh (.int (0 + (i : Int)))), ("keep", .sh (.list ((rowsUp ns w n.toNat).map rowD))), ("got", .sh (.list ((rowsUp ns w n.toNat).map outD))), ("width", .sh (.int w))]) ⟨rfl, s1, s2, s3, trivial⟩ ?_
      have ei : (0 + (i : Int)).toNat = i := by omega
      have hgi : ((rowsUp ns w n.toNat).map outD)[(0 + (i : Int)).toNat]? = some (outD (rowv ns w i)) := by rw [ei, List.getElem?_map, rowsUp_get (by omega)]; rfl
      have hki : ((rowsUp ns w n.toNat).map rowD)[(0 + (i : Int)).toNat]? = some (rowD (rowv ns w i)) := by rw [ei, List.getElem?_map, rowsUp_get (by omega)]; rfl
      refine ex_cons (ex_if (tv_not (tv_typeIs F.type F.list (ev_sub (ev_name rfl (ev_name rfl ⟨by omega, by omega, _, hgi, .inr (.inl rfl), ?_⟩))))))
      refine ex_nil (ex_cons (ex_if (tv_cmp (ev_len F.len (ev_sub (ev_name rfl (ev_name rfl ⟨by omega, by omega, _, hgi, ?_⟩)))))))
      have e2 : (((rowv ns w i).map fun v => PyData.tuple [.int v, .int 1]).length : Int) = w := by unfold rowv; simp; omega
      refine ⟨by omega, ev_name rfl (co_neI ?_)⟩
      rw [e2, bne_self_eq_false]
      refine ex_nil (ex_cons (ex_for (.inl rfl) (itn_range1 rm.hh F.range (ev_name rfl ⟨by omega, by omega, ?_⟩))))
      refine ⟨fun j ρ' => SubS [("i", .sh (.int (0 + (i : Int)))), ("keep", .sh (.list ((rowsUp ns w n.toNat).map rowD))), ("got", .sh (.list ((rowsUp ns w n.toNat).map outD))), ("width", .sh (.int w))] ρ', ⟨rfl, rfl, rfl, rfl, trivial⟩, ?_, ?_⟩
      · rintro j d ρ'' hd ⟨t0, t1, t2, t3, _⟩
        obtain ⟨rfl, hj1, hj2⟩ := rangeL_get hd
        refine ex_weak (ρ' := [("j", .sh (.int (0 + (j : Int)))), ("i", .sh (.int (0 + (i : Int)))), ("keep", .sh (.list ((rowsUp ns w n.toNat).map rowD))), ("got", .sh (.list ((rowsUp ns w n.toNat).map outD))), ("width", .sh (.int w))]) ⟨rfl, t0, t1, t2, t3, trivial⟩ ?_
        have ej : (0 + (j : Int)).toNat = j := by omega
        have hgj : ((rowv ns w i).map fun v => PyData.tuple [.int v, .int 1])[(0 + (j : Int)).toNat]? = some (.tuple [.int (cellw ns (2 + (i : Int) * w + (j : Int))), .int 1]) := by rw [ej, List.getElem?_map, rowv_get (by omega)]; rfl
        have hkj : ((rowv ns w i).map PyData.int)[(0 + (j : Int)).toNat]? = some (.int (cellw ns (2 + (i : Int) * w + (j : Int)))) := by rw [ej, List.getElem?_map, rowv_get (by omega)]; rfl
        refine ex_cons (ex_assign (.inl rfl) (ev_sub (ev_sub (ev_name rfl (ev_name rfl ⟨by omega, by omega, _, hgi, ev_name rfl ⟨by omega, by omega, _, hgj, ?_⟩⟩)))))
        refine ex_cons (ex_if (tv_not (tv_typeIs F.type F.tuple (ev_name rfl ⟨.inr (.inr rfl), ?_⟩))))
        refine ex_nil (ex_cons (ex_if (tv_cmp (ev_len F.len (ev_name rfl ⟨by simp, ev_int (co_neI ?_)⟩)))))
        refine ex_nil (ex_cons (ex_if (tv_not (tv_typeIs F.type F.int (ev_sub (ev_name rfl (ev_int ⟨by decide, by decide, _, rfl, .inl rfl, ?_⟩)))))))
        refine ex_nil (ex_cons (ex_if (tv_not (tv_typeIs F.type F.int (ev_sub (ev_name rfl (ev_int ⟨by decide, by decide, _, rfl, .inl rfl, ?_⟩)))))))
        refine ex_nil (ex_cons (ex_if (tv_cmp (ev_sub (ev_name rfl (ev_int ⟨by decide, by decide, _, rfl, ev_sub (ev_sub (ev_name rfl (ev_name rfl ⟨by omega, by omega, _, hki, ev_name rfl ⟨by omega, by omega, _, hkj, co_neI ?_⟩⟩)))⟩))))))
        rw [bne_self_eq_false]
        refine ex_nil (ex_cons (ex_if (tv_cmp (ev_sub (ev_name rfl (ev_int ⟨by decide, by decide, _, rfl, ev_int (co_neI ?_)⟩))))))
        exact ex_nil (ex_nil ⟨rfl, rfl, rfl, rfl, trivial⟩)
      · rintro ρ'' ⟨t0, t1, t2, t3, _⟩
        exact ex_nil ⟨t1, t2, t3, trivial⟩
    · rintro ρ' ⟨s1, s2, s3, _⟩
      exact ex_cons (ex_ret (ev_bool rfl))
  exact rest k O₀ _ ⟨_, _, _, I₈⟩ Q E fun o fl s' p mo g => f o fl s' p (mo₈.trans mo) g
end Mine

open PySem PySem.W PyProof.Rows
set_option maxRecDepth 100000 in
set_option maxHeartbeats 8000000 in
theorem PySem.Challenge.cw_k20_0013_holds : PySem.Challenge.rw_k20_0013.Holds := by
  w_on
  o_law
  k_head
  (case hw => w_witness2)
  intro w s₀ s₁ mg mb G Y fa o pm cd doc dV kV ho hd hcd hD hmg hg args vals as hpre hlay hrd hwl hlo
  refine Ground.open G ?_
  intro T B D TE TW
  wrow_args hpre hlay hrd hwl hlo
  rename_i ns hs hlay0 hL hr hl2 w4 w3 l vs w0 hl ra w1 r0 hI hr' hc1 hc2
  obtain ⟨fl, e1, Dl⟩ := Mine.df_of (prog := PySem.Challenge.pw_k20_0013) (w := w) T (d := Mine.fdef PySem.Challenge.pw_k20_0013 4) (List.mem_of_getElem? (i := 2) (by kernel_rfl))
  obtain ⟨fc, e2, Dc⟩ := Mine.df_of (prog := PySem.Challenge.pw_k20_0013) (w := w) T (d := Mine.fdef PySem.Challenge.pw_k20_0013 3) (List.mem_of_getElem? (i := 1) (by kernel_rfl))
  obtain ⟨ff, e3, Df⟩ := Mine.df_of (prog := PySem.Challenge.pw_k20_0013) (w := w) T (d := Mine.fdef PySem.Challenge.pw_k20_0013 1) (List.mem_of_getElem? (i := 0) (by kernel_rfl))
  have efl : fl = fa := by
    have q := e1.symm.trans hmg
    exact Value.ref.inj (Option.some.inj q)
  subst efl
  have F : Mine.Facts13 ⟨PySem.Challenge.pw_k20_0013, w, s₁.heap⟩ fl fc ff := ⟨Dl, Dc, Df,
    Mine.gl_boot T (by decide +kernel) (by decide) (by decide +kernel) (by decide +kernel) (by decide +kernel) (by decide +kernel) (by decide +kernel),
    Mine.gl_boot T (by decide +kernel) (by decide) (by decide +kernel) (by decide +kernel) (by decide +kernel) (by decide +kernel) (by decide +kernel),
    Mine.gl_boot T (by decide +kernel) (by decide) (by decide +kernel) (by decide +kernel) (by decide +kernel) (by decide +kernel) (by decide +kernel),
    Mine.gl_boot T (by decide +kernel) (by decide) (by decide +kernel) (by decide +kernel) (by decide +kernel) (by decide +kernel) (by decide +kernel),
    Mine.gl_boot T (by decide +kernel) (by decide) (by decide +kernel) (by decide +kernel) (by decide +kernel) (by decide +kernel) (by decide +kernel),
    Mine.gl_boot T (by decide +kernel) (by decide) (by decide +kernel) (by decide +kernel) (by decide +kernel) (by decide +kernel) (by decide +kernel)⟩
  exact Mine.close_law (n := 5) (Mine.law13 F ns (by omega)) ⟨rfl, by decide, by decide⟩ r0 (fun _ => rfl) (postW_of rfl (w_eq_bool (w_res rfl) w_lit) rfl) hg
