import PyProof.Rows.All
import Wide.All
import OpenK.AllK
import Wide.FinOn
import PyProof.Rows.BitMore
import Lean
import PySem.Challenge.RW_nm0048_01
-- The order of this text. First a reckoner of conditions over a given program text (wpSs) and the proof that it is sound for the model.
-- Then the plain law: arithmetic in 32 bits, what a better operation must keep, the measure that ends the turns.
-- Then the conditions of each function of the text, proved; then: every call keeps to its contract (calls_all).
-- Then the law's own function, over any heap that keeps to Kit; last the head, and Kit of the heap that it builds (top).
section
open PySem PySem.W PyProof.Rows PySem.Calls
set_option Elab.async false
set_option tactic.hygienic false
set_option genSizeOf false
set_option genInjectivity false
set_option linter.all false
set_option backward.match.sparseCases false
set_option bootstrap.genMatcherCode false
namespace Mine.Internal

inductive Bi where
  | len | abs | int | str | list | range | enum
noncomputable def Bi.val : Bi → Value
  | .len => .builtin "len"
  | .abs => .builtin "abs"
  | .int => .type "int"
  | .str => .type "str"
  | .list => .type "list"
  | .range => .type "range"
  | .enum => .type "enumerate"

inductive D where
  | none
  | bool (b : Bool)
  | int (i : Int)
  | str (s : Str)
  | tup (l : List D)
  | lst (l : List D)
  | dct (l : List (Str × D))
  | fac (l : List (Int × D))
  | wel
  | fn (a : Addr)
  | bi (b : Bi)

noncomputable def lbeq : List Nat → List Nat → Bool
  | [], [] => true
  | x :: xs, y :: ys => match Nat.beq x y with | true => lbeq xs ys | false => false
  | _, _ => false
theorem lbeq_iff : ∀ {x y : List Nat}, lbeq x y = true ↔ x = y
  | [], [] => by simp [lbeq]
  | [], _ :: _ => by simp [lbeq]
  | _ :: _, [] => by simp [lbeq]
  | x :: xs, y :: ys => by
    simp only [lbeq, List.cons.injEq]
    cases h : Nat.beq x y with
    | true => simp [Nat.eq_of_beq_eq_true h, lbeq_iff]
    | false => simp [Nat.ne_of_beq_eq_false h]
noncomputable def seqb (x y : Str) : Bool := lbeq x.cps.toList y.cps.toList
theorem seqb_iff {x y : Str} : seqb x y = true ↔ x = y := by
  unfold seqb
  rw [lbeq_iff]
  cases x; cases y
  simp [Array.toList_inj]
theorem seqb_self (x : Str) : seqb x x = true := seqb_iff.mpr rfl
theorem seqb_false {x y : Str} (h : x ≠ y) : seqb x y = false := by
  cases q : seqb x y with
  | false => rfl
  | true => exact absurd (seqb_iff.mp q) h

noncomputable def lk {α : Type} (x : Str) : List (Str × α) → Option α
  | [] => none
  | (y, d) :: r => match seqb x y with | true => some d | false => lk x r
theorem lk_cons_self {α : Type} {x : Str} {d : α} {r : List (Str × α)} : lk x ((x, d) :: r) = some d := by simp [lk, seqb_self]
theorem lk_cons_ne {α : Type} {x y : Str} {d : α} {r : List (Str × α)} (h : x ≠ y) : lk x ((y, d) :: r) = lk x r := by simp [lk, seqb_false h]
theorem lk_lookup {α : Type} (x : Str) : ∀ l : List (Str × α), lk x l = l.lookup x
  | [] => rfl
  | (y, d) :: r => by
    by_cases h : x = y
    · subst h; simp [lk, seqb_self, List.lookup]
    · rw [lk_cons_ne h, lk_lookup x r]
      simp [List.lookup, beq_false_of_ne h]

noncomputable def lki {α : Type} (i : Int) : List (Int × α) → Option α
  | [] => none
  | (j, d) :: r => if i = j then some d else lki i r

theorem hideAll_sub {l l' : List Addr} (h : Heap) (hs : ∀ a ∈ l', a ∈ l) : (hideAll h l).StaysIn (hideAll h l') := fun b o e =>
  hideAll_get _ (of_hideAll _ e) fun q => by rw [hideAll_none _ (hs b q)] at e; cases e

noncomputable def Keep (mu : List Addr) (h h' : Heap) : Prop := ∀ b o, b ∉ mu → h.get? b = some o → h'.get? b = some o
theorem Keep.refl {mu : List Addr} (h : Heap) : Keep mu h h := fun _ _ _ e => e
theorem Keep.trans {mu : List Addr} {h h' h'' : Heap} (a : Keep mu h h') (b : Keep mu h' h'') : Keep mu h h'' := fun x o n e => b x o n (a x o n e)
theorem Keep.stays {mu hid : List Addr} {h h' : Heap} (a : Keep mu h h') (hs : ∀ x ∈ mu, x ∈ hid) : (hideAll h hid).StaysIn (hideAll h' hid) := fun b o e => by
  have nb : b ∉ hid := fun q => by rw [hideAll_none _ q] at e; cases e
  exact hideAll_get _ (a b o (fun q => nb (hs b q)) (of_hideAll _ e)) nb
theorem Keep.mono {mu mu' : List Addr} {h h' : Heap} (a : Keep mu h h') (hs : ∀ x ∈ mu, x ∈ mu') : Keep mu' h h' := fun b o n e => a b o (fun q => n (hs b q)) e
theorem Keep.ofStays {mu : List Addr} {h h' : Heap} (a : ∀ b o, h.get? b = some o → h'.get? b = some o) : Keep mu h h' := fun b o _ e => a b o e
theorem Keep.sameBut {mu : List Addr} {h h' : Heap} {a : Addr} (hs : Heap.SameBut a h h') (ha : a ∈ mu) : Keep mu h h' := fun b o n e =>
  (hs.2 b fun q => n (q ▸ ha)).trans e

structure Wd where
  prog : Program
  w : World
  cf : Addr
  aw : Addr
  ac : Addr

inductive FacBase (cf : Addr) (h : Heap) (x dsh : Addr) : Prop
  | mk (dx dm : Addr) (es : List DictEntry) (n n' : Nat) (sl : Array (Option Value)) (h1 : h.get? x = some (⟨.ref cf, some dx, .plain, sl⟩ : Obj)) (h2 : h.get? dx = some (dictOf es n))
    (h3 : getL "shapes" es = some (some (.ref dsh))) (h4 : getL "made" es = some (some (.ref dm))) (h5 : h.get? dm = some (dictOf [] n')) (h6 : getL "shape" es = some none) (h7 : (dm == sysModules) = false) (h8 : (dsh == sysModules) = false)

inductive IsI (i : Int) : Value → Prop
  | int (t : Tok) : IsI i (.int i t)
inductive IsS (s : Str) : Value → Prop
  | str (t : Tok) : PyData.strOk s = true → IsS s (.str s t)
inductive IsV (u : Value) : Value → Prop
  | it : IsV u u
inductive SqT (h : Heap) (P : List Value → Prop) : Value → Prop
  | tup {a : Addr} {vs : Array Value} : vs.size ≤ 1000 → IsTup h a vs → P vs.toList → SqT h P (.ref a)
inductive SqL (h : Heap) (P : List Value → Prop) : Value → Prop
  | lst {a : Addr} {vs : Array Value} : vs.size ≤ 1000 → h.IsList a vs → P vs.toList → SqL h P (.ref a)
inductive DcA (X : Wd) (h : Heap) (ds : List (Str × D)) (P : (Str → Value) → Prop) : Value → Prop
  | dct {a : Addr} {f : Str → Option Value} {g : Str → Value} : (a == sysModules) = false → h.MapOf (strKind X.prog X.w) a f → (∀ x d, lk x ds = some d → f x = some (g x)) →
      (∀ x, lk x ds = none → f x = none) → P g → DcA X h ds P (.ref a)
inductive FcA (X : Wd) (h : Heap) (l : List (Int × D)) (P : (Int → Value) → Prop) : Value → Prop
  | fac {x dsh : Addr} {f : Int → Option Value} {g : Int → Value} : FacBase X.cf h x dsh → h.MapOf (intKind X.prog X.w) dsh f → (∀ i d, lki i l = some d → f i = some (g i)) →
      (∀ i, lki i l = none → f i = none) → P g → FcA X h l P (.ref x)
inductive FnA (h : Heap) (a : Addr) : Value → Prop
  | fn {o : Obj} {fd : FuncData} : h.get? a = some o → o.data = .func fd → FnA h a (.ref a)
inductive Nl : List Value → Prop
  | nil : Nl []
inductive Cs (P : Value → Prop) (Q : List Value → Prop) : List Value → Prop
  | cons {v : Value} {vs : List Value} : P v → Q vs → Cs P Q (v :: vs)
section
variable (X : Wd) (h : Heap)
mutual
noncomputable def Rp : D → Value → Prop
  | .none => IsV .none
  | .bool b => IsV (.bool b)
  | .int i => IsI i
  | .str s => IsS s
  | .tup l => SqT h (RpL l)
  | .lst l => SqL h (RpL l)
  | .dct l => DcA X h l (RpS l)
  | .fac l => FcA X h l (RpI l)
  | .wel => IsV (.ref X.aw)
  | .fn a => FnA h a
  | .bi b => IsV b.val
noncomputable def RpL : List D → List Value → Prop
  | [] => Nl
  | d :: ds => Cs (Rp d) (RpL ds)
noncomputable def RpS : List (Str × D) → (Str → Value) → Prop
  | [] => fun _ => True
  | (x, d) :: r => fun g => Rp d (g x) ∧ RpS r g
noncomputable def RpI : List (Int × D) → (Int → Value) → Prop
  | [] => fun _ => True
  | (i, d) :: r => fun g => Rp d (g i) ∧ RpI r g
end
noncomputable def Rep (v : Value) (d : D) : Prop := Rp X h d v
noncomputable def RepL (vs : List Value) (ds : List D) : Prop := RpL X h ds vs
end

section
variable {X : Wd}
theorem isList_keeps {h h' : Heap} {a : Addr} {vs : Array Value} (x : h.IsList a vs) (k : h.StaysIn h') : h'.IsList a vs := let ⟨o, ho, r⟩ := x; ⟨o, k a o ho, r⟩
theorem mapOf_keeps {prog : Program} {w : World} {K : Type} [DecidableEq K] {knd : KeyKind prog w K} {h h' : Heap} {a : Addr} {f : K → Option Value} (x : h.MapOf knd a f) (k : h.StaysIn h') : h'.MapOf knd a f := let ⟨o, es, ep, ho, r⟩ := x; ⟨o, es, ep, k a o ho, r⟩
theorem FacBase.keeps {cf : Addr} {h h' : Heap} {x dsh : Addr} (q : FacBase cf h x dsh) (k : h.StaysIn h') : FacBase cf h' x dsh :=
  match q with | .mk dx dm es n n' sl h1 h2 h3 h4 h5 h6 h7 h8 => .mk dx dm es n n' sl (k _ _ h1) (k _ _ h2) h3 h4 (k _ _ h5) h6 h7 h8
theorem SqT.keeps {h h' : Heap} {P Q : List Value → Prop} (k : h.StaysIn h') (f : ∀ v, P v → Q v) {v : Value} : SqT h P v → SqT h' Q v
  | .tup z a b => .tup z (a.keeps k) (f _ b)
theorem SqL.keeps {h h' : Heap} {P Q : List Value → Prop} (k : h.StaysIn h') (f : ∀ v, P v → Q v) {v : Value} : SqL h P v → SqL h' Q v
  | .lst z a b => .lst z (isList_keeps a k) (f _ b)
theorem DcA.keeps {h h' : Heap} {l : List (Str × D)} {P Q : (Str → Value) → Prop} (k : h.StaysIn h') (f : ∀ v, P v → Q v) {v : Value} : DcA X h l P v → DcA X h' l Q v
  | .dct a b c d e => .dct a (mapOf_keeps b k) c d (f _ e)
theorem FcA.keeps {h h' : Heap} {l : List (Int × D)} {P Q : (Int → Value) → Prop} (k : h.StaysIn h') (f : ∀ v, P v → Q v) {v : Value} : FcA X h l P v → FcA X h' l Q v
  | .fac a b c d e => .fac (a.keeps k) (mapOf_keeps b k) c d (f _ e)
theorem FnA.keeps {h h' : Heap} {a : Addr} (k : h.StaysIn h') {v : Value} : FnA h a v → FnA h' a v
  | .fn b c => .fn (k _ _ b) c
theorem Cs.keeps {P P' : Value → Prop} {Q Q' : List Value → Prop} (f : ∀ v, P v → P' v) (g : ∀ v, Q v → Q' v) {v : List Value} : Cs P Q v → Cs P' Q' v
  | .cons a b => .cons (f _ a) (g _ b)
section
variable {h h' : Heap} (k : h.StaysIn h')
include k
mutual
theorem Rp.keeps : ∀ (d : D) (v : Value), Rp X h d v → Rp X h' d v
  | .none => fun _ x => x
  | .bool _ => fun _ x => x
  | .int _ => fun _ x => x
  | .str _ => fun _ x => x
  | .tup l => fun _ x => SqT.keeps k (RpL.keeps l) x
  | .lst l => fun _ x => SqL.keeps k (RpL.keeps l) x
  | .dct l => fun _ x => DcA.keeps k (RpS.keeps l) x
  | .fac l => fun _ x => FcA.keeps k (RpI.keeps l) x
  | .wel => fun _ x => x
  | .fn _ => fun _ x => FnA.keeps k x
  | .bi _ => fun _ x => x
theorem RpL.keeps : ∀ (d : List D) (v : List Value), RpL X h d v → RpL X h' d v
  | [] => fun _ x => x
  | d :: ds => fun _ x => Cs.keeps (Rp.keeps d) (RpL.keeps ds) x
theorem RpS.keeps : ∀ (l : List (Str × D)) (g : Str → Value), RpS X h l g → RpS X h' l g
  | [] => fun _ x => x
  | (_, d) :: r => fun g x => ⟨Rp.keeps d _ x.1, RpS.keeps r g x.2⟩
theorem RpI.keeps : ∀ (l : List (Int × D)) (g : Int → Value), RpI X h l g → RpI X h' l g
  | [] => fun _ x => x
  | (_, d) :: r => fun g x => ⟨Rp.keeps d _ x.1, RpI.keeps r g x.2⟩
end
end
theorem Rep.keeps {h h' : Heap} {v : Value} {d : D} (r : Rep X h v d) (k : h.StaysIn h') : Rep X h' v d := Rp.keeps k d v r
theorem RepL.keeps {h h' : Heap} {v : List Value} {d : List D} (r : RepL X h v d) (k : h.StaysIn h') : RepL X h' v d := RpL.keeps k d v r
theorem RpS.at {h : Heap} {g : Str → Value} {x : Str} {d : D} : ∀ {l : List (Str × D)}, RpS X h l g → lk x l = some d → Rep X h (g x) d
  | (y, e) :: r, q, hl => by
    cases hs : seqb x y with
    | true =>
      have hx := seqb_iff.mp hs
      subst hx
      rw [lk_cons_self] at hl
      cases hl
      exact q.1
    | false =>
      rw [lk_cons_ne (fun e => by rw [e, seqb_self] at hs; cases hs)] at hl
      exact RpS.at (l := r) q.2 hl
theorem RpI.at {h : Heap} {g : Int → Value} {x : Int} {d : D} : ∀ {l : List (Int × D)}, RpI X h l g → lki x l = some d → Rep X h (g x) d
  | (y, e) :: r, q, hl => by
    unfold lki at hl
    by_cases hx : x = y
    · rw [if_pos hx] at hl
      subst hx
      cases hl
      exact q.1
    · rw [if_neg hx] at hl
      exact RpI.at (l := r) q.2 hl
section
variable {h : Heap}
theorem Rep.none : Rep X h .none .none := IsV.it
theorem Rep.bool (b : Bool) : Rep X h (.bool b) (.bool b) := IsV.it
theorem Rep.int (i : Int) (t : Tok) : Rep X h (.int i t) (.int i) := IsI.int t
theorem Rep.str (s : Str) (t : Tok) (o : PyData.strOk s = true) : Rep X h (.str s t) (.str s) := IsS.str t o
theorem Rep.tup {a : Addr} {vs : Array Value} {ds : List D} (z : vs.size ≤ 1000) (t : IsTup h a vs) (r : RepL X h vs.toList ds) : Rep X h (.ref a) (.tup ds) := SqT.tup z t r
theorem Rep.lst {a : Addr} {vs : Array Value} {ds : List D} (z : vs.size ≤ 1000) (t : h.IsList a vs) (r : RepL X h vs.toList ds) : Rep X h (.ref a) (.lst ds) := SqL.lst z t r
theorem Rep.wel : Rep X h (.ref X.aw) .wel := IsV.it
theorem Rep.fn {a : Addr} {o : Obj} {fd : FuncData} (x : h.get? a = some o) (y : o.data = .func fd) : Rep X h (.ref a) (.fn a) := FnA.fn x y
theorem Rep.bi (b : Bi) : Rep X h b.val (.bi b) := IsV.it
theorem RepL.nil : RepL X h [] [] := Nl.nil
theorem RepL.cons {v : Value} {d : D} {vs : List Value} {ds : List D} (a : Rep X h v d) (b : RepL X h vs ds) : RepL X h (v :: vs) (d :: ds) := Cs.cons a b
end
theorem RepL.length {h : Heap} : ∀ {ds : List D} {vs : List Value}, RepL X h vs ds → vs.length = ds.length
  | [], _, r => by cases r; rfl
  | _ :: _, _, r => by cases r with | cons a b => exact congrArg (· + 1) (RepL.length b)
theorem RepL.get {h : Heap} : ∀ {ds : List D} {vs : List Value} {i : Nat} {d : D}, RepL X h vs ds → ds[i]? = some d → ∃ v, vs[i]? = some v ∧ Rep X h v d
  | [], _, _, _, _, e => nomatch e
  | _ :: _, _, 0, _, r, e => by cases r with | cons a b => cases e; exact ⟨_, rfl, a⟩
  | _ :: _, _, i + 1, _, r, e => by cases r with | cons a b => exact RepL.get (i := i) b e
theorem RepL.getV {h : Heap} : ∀ {ds : List D} {vs : List Value} {i : Nat} {v : Value}, RepL X h vs ds → vs[i]? = some v → ∃ d, ds[i]? = some d ∧ Rep X h v d
  | [], _, _, _, r, e => by cases r; cases e
  | _ :: _, _, 0, _, r, e => by cases r with | cons a b => cases e; exact ⟨_, rfl, a⟩
  | _ :: _, _, i + 1, _, r, e => by cases r with | cons a b => exact RepL.getV (i := i) b e
theorem RepL.append {h : Heap} : ∀ {ds ds' : List D} {vs vs' : List Value}, RepL X h vs ds → RepL X h vs' ds' → RepL X h (vs ++ vs') (ds ++ ds')
  | [], _, _, _, r, r' => by cases r; exact r'
  | _ :: _, _, _, _, r, r' => by cases r with | cons a b => exact Cs.cons a (RepL.append b r')
end

mutual
noncomputable def toPy : D → Option PyData
  | .none => some .none
  | .int i => some (.int i)
  | .str s => some (.str s)
  | .tup l => (toPys l).map .tuple
  | .lst l => (toPys l).map .list
  | _ => none
noncomputable def toPys : List D → Option (List PyData)
  | [] => some []
  | d :: ds => (toPy d).bind fun x => (toPys ds).map (x :: ·)
end
theorem and_true' {a b : Bool} (x : a = true) (y : b = true) : (a && b) = true := by subst x y; rfl
theorem bind2 {α : Type} {o : Option α} {p : Option (List α)} {r : List α} (h : (o.bind fun x => p.map (x :: ·)) = some r) : ∃ x ps, o = some x ∧ p = some ps ∧ r = x :: ps := by
  cases o with
  | none => cases h
  | some x =>
    cases p with
    | none => cases h
    | some ps => cases h; exact ⟨x, ps, rfl, rfl, rfl⟩
inductive Rd (h : Heap) (v : Value) (p : PyData) : Prop
  | mk {as : List Addr} : Reads h v p as → p.canLay0 = true → Rd h v p
inductive RdL (h : Heap) (v : List Value) (p : List PyData) : Prop
  | mk {as : List Addr} : ReadsAll h v p as → PyData.canLayAll0 p = true → RdL h v p
section
variable {X : Wd} {h : Heap}
mutual
theorem reads_of : ∀ (d : D) {v : Value} {p : PyData}, Rep X h v d → toPy d = some p → Rd h v p
  | .none, _, _, r, e => by cases r; cases e; exact .mk .none rfl
  | .int _, _, _, r, e => by cases r; cases e; exact .mk (.int _ _) rfl
  | .str _, _, _, r, e => by cases r with | str t o => cases e; exact .mk (.str _ _) o
  | .tup l, _, _, r, e => by
    cases r with | tup z a b =>
    have e : (toPys l).map PyData.tuple = some _ := e
    cases e1 : toPys l with
    | none => rw [e1] at e; cases e
    | some ps =>
      rw [e1] at e; cases e
      obtain ⟨o, ho, hc, n, hd⟩ := a
      cases readsL_of l b e1 with | mk r q => exact .mk (.tuple ho hc hd r) q
  | .lst l, _, _, r, e => by
    cases r with | lst z a b =>
    have e : (toPys l).map PyData.list = some _ := e
    cases e1 : toPys l with
    | none => rw [e1] at e; cases e
    | some ps =>
      rw [e1] at e; cases e
      obtain ⟨o, ho, hc, n, hd⟩ := a
      cases readsL_of l b e1 with | mk r q => exact .mk (.list ho hc hd r) q
  | .bool _, _, _, _, e => nomatch e
  | .dct _, _, _, _, e => nomatch e
  | .fac _, _, _, _, e => nomatch e
  | .wel, _, _, _, e => nomatch e
  | .fn _, _, _, _, e => nomatch e
  | .bi _, _, _, _, e => nomatch e
theorem readsL_of : ∀ (ds : List D) {vs : List Value} {ps : List PyData}, RepL X h vs ds → toPys ds = some ps → RdL h vs ps
  | [], _, _, r, e => by cases r; cases e; exact .mk .nil rfl
  | d :: ds, _, _, r, e => by
    cases r with | cons a b =>
    obtain ⟨x, ps, e1, e2, rfl⟩ := bind2 e
    cases reads_of d a e1 with | mk r q => cases readsL_of ds b e2 with | mk r' q' => exact .mk (.cons r r') (and_true' q q')
end
end
end Mine.Internal

end
section
open PySem PySem.W PyProof.Rows PySem.Calls
set_option Elab.async false
set_option tactic.hygienic false
set_option genSizeOf false
set_option genInjectivity false
set_option linter.all false
set_option backward.match.sparseCases false
set_option bootstrap.genMatcherCode false
namespace Mine.Internal

noncomputable abbrev NoE : Value → Shared → Prop := fun _ _ => False
structure Grow (s s' : Shared) : Prop where
  stays : s.heap.StaysIn s'.heap
  same : s' = { s with heap := s'.heap, toks := s'.toks }
theorem Grow.refl (s : Shared) : Grow s s := ⟨fun _ _ e => e, rfl⟩
theorem Grow.toks (s : Shared) (k : Nat) : Grow s { s with toks := k } := ⟨fun _ _ e => e, rfl⟩
theorem Grow.heap {s : Shared} {h' : Heap} (k : Nat) (st : s.heap.StaysIn h') : Grow s { s with heap := h', toks := k } := ⟨st, rfl⟩
theorem Grow.heap' {s : Shared} {h' : Heap} (st : s.heap.StaysIn h') : Grow s { s with heap := h' } := ⟨st, rfl⟩
theorem Grow.trans {s s' s'' : Shared} (a : Grow s s') (b : Grow s' s'') : Grow s s'' := ⟨fun x o e => b.stays _ _ (a.stays _ _ e), by rw [b.same, a.same]⟩
theorem stays_push {h : Heap} (o : Obj) : h.StaysIn (h.push o) := fun _ _ e => Heap.get?_push_of_some o e
theorem stays_hid {h h' : Heap} (hid : List Addr) (st : h.StaysIn h') : (hideAll h hid).StaysIn (hideAll h' hid) :=
  Keep.stays (mu := []) (Keep.ofStays st) fun _ q => nomatch q
theorem stays_out {h : Heap} (hid : List Addr) : (hideAll h hid).StaysIn h := fun _ _ e => of_hideAll _ e

inductive Res (X : Wd) (hid : List Addr) (K : D → Prop) (s : Shared) (v : Value) (s' : Shared) : Prop
  | mk (d : D) (k : K d) (r : Rep X (hideAll s'.heap hid) v d) (g : Grow s s')
inductive ResB (K : Bool → Prop) (s : Shared) (v : Value) (s' : Shared) : Prop
  | mk (b : Bool) (e : v = .bool b) (k : K b) (g : Grow s s')
theorem ResB.at {K : Bool → Prop} {s : Shared} {b : Bool} (k : K b) : ResB K s (.bool b) s := ⟨b, rfl, k, .refl _⟩
theorem ResB.tk {K : Bool → Prop} {s : Shared} {b : Bool} {n : Nat} (k : K b) : ResB K s (.bool b) { s with toks := n } := ⟨b, rfl, k, .toks _ _⟩

noncomputable def iiW (a b : D) (K : Int → Int → Prop) : Prop := match a with
  | .int x => (match b with
    | .int y => K x y
    | _ => False)
  | _ => False
inductive II (K : Int → Int → Prop) : D → D → Prop
  | mk {x y : Int} : K x y → II K (.int x) (.int y)
theorem iiW_inv {a b : D} {K : Int → Int → Prop} (h : iiW a b K) : II K a b := by
  cases a <;> first | exact h.elim | (cases b <;> first | exact h.elim | exact .mk h)
noncomputable def strW (a : D) (K : Str → Prop) : Prop := match a with
  | .str x => K x
  | _ => False
inductive SS (K : Str → Prop) : D → Prop
  | mk {x : Str} : K x → SS K (.str x)
theorem strW_inv {a : D} {K : Str → Prop} (h : strW a K) : SS K a := by
  cases a <;> first | exact h.elim | exact .mk h
noncomputable def onlyT (b : Bool) (P : Prop) : Prop := match b with
  | true => P
  | false => False
theorem onlyT_inv {b : Bool} {P : Prop} (h : onlyT b P) : b = true ∧ P := by
  cases b
  · exact h.elim
  · exact ⟨rfl, h⟩

noncomputable def sapp (x y : Str) : Str := ⟨(x.cps.toList ++ y.cps.toList).toArray⟩
theorem sapp_eq (x y : Str) : sapp x y = x ++ y := by
  cases x; cases y
  show _ = Str.append _ _
  simp [sapp, Str.append]
theorem strOk_app {x y : Str} (hx : PyData.strOk x = true) (hy : PyData.strOk y = true) : PyData.strOk (x ++ y) = true := by
  cases x; cases y
  show PyData.strOk (Str.append _ _) = true
  simp [PyData.strOk, Str.append] at *
  exact ⟨hx, hy⟩

noncomputable def lstW (d : D) (K : List D → Prop) : Prop := match d with
  | .lst l => K l
  | _ => False
inductive LS (K : List D → Prop) : D → Prop
  | mk {l : List D} : K l → LS K (.lst l)
theorem lstW_inv {d : D} {K : List D → Prop} (h : lstW d K) : LS K d := by
  cases d <;> first | exact h.elim | exact .mk h
noncomputable def addW (a b : D) (K : D → Prop) : Prop := match a with
  | .int x => (match b with
    | .int y => K (.int (x + y))
    | _ => False)
  | .str x => strW b fun y => onlyT (Nat.ble (x.cps.toList.length + y.cps.toList.length) 1000) (K (.str (sapp x y)))
  | .lst x => lstW b fun y => onlyT (Nat.ble (x.length + y.length) 1000) (K (.lst (x ++ y)))
  | _ => False
noncomputable def binW (op : Operator) (a b : D) (K : D → Prop) : Prop := match op with
  | .Add => addW a b K
  | .Sub => iiW a b fun x y => K (.int (x - y))
  | .Mult => iiW a b fun x y => (x.natAbs < 2 ^ 63 ∧ y.natAbs < 2 ^ 63) ∧ K (.int (x * y))
  | .FloorDiv => iiW a b fun x y => (y ≠ 0 ∧ y.natAbs < 2 ^ 63) ∧ K (.int (x.fdiv y))
  | .Mod => iiW a b fun x y => y ≠ 0 ∧ K (.int (x.fmod y))
  | .LShift => iiW a b fun x y => (0 ≤ y ∧ y ≤ 64 ∧ x.natAbs < 2 ^ 63) ∧ K (.int (x * 2 ^ y.toNat))
  | .RShift => iiW a b fun x y => 0 ≤ y ∧ K (.int (x.fdiv (2 ^ y.toNat)))
  | .BitAnd => iiW a b fun x y => K (.int (Builtin.bitAnd x y))
  | .BitOr => iiW a b fun x y => K (.int (Builtin.bitOr x y))
  | .BitXor => iiW a b fun x y => K (.int (Builtin.bitXor x y))
  | _ => False

theorem log_lt {x : Int} (h0 : x.natAbs ≠ 0) (h : x.natAbs < 2 ^ 63) : x.natAbs.log2 < 63 := (Nat.log2_lt h0).mpr h
theorem intBits_le {x : Int} (h : x.natAbs < 2 ^ 63) : Builtin.Int.intBits x ≤ 64 := by
  unfold Builtin.Int.intBits
  split
  · exact Nat.zero_le _
  · rename_i h0
    exact Nat.succ_le_of_lt (Nat.lt_succ_of_lt (log_lt (by simpa using h0) h))
theorem length_le {x : Str} {n : Nat} (h : x.cps.toList.length ≤ n) : x.length ≤ n := by
  rw [Array.length_toList] at h; exact h

section
variable {X : Wd} {hid : List Addr} {A : Around} {s : Shared} {K : D → Prop} {a b : D} {va vb : Value}
theorem resI {x : Int} {t : Tok} {k : Nat} (h : K (.int x)) : Res X hid K s (.int x t) { s with toks := k } := ⟨_, h, .int _ _, .toks _ _⟩

theorem ii_sound {op : Operator} {P : Int → Int → Prop} (h : iiW a b P) (ha : Rep X (hideAll s.heap hid) va a) (hb : Rep X (hideAll s.heap hid) vb b)
    (k : ∀ x y t u, P x y → wpAny (model X.prog X.w) A (binaryOp op (.int x t) (.int y u)) (Res X hid K s) NoE s) : wpAny (model X.prog X.w) A (binaryOp op va vb) (Res X hid K s) NoE s := by
  cases iiW_inv h with | mk h =>
  cases ha; cases hb
  exact k _ _ _ _ h
theorem fresh_of {h : Heap} (live : ∀ a ∈ hid, (h.get? a).isSome = true) {b : Addr} (hb : h.objs.size ≤ b) : b ∉ hid := fun q => by
  have := live _ q
  rw [Heap.get?_none_of_le hb] at this; cases this
theorem fresh_hid {h : Heap} (live : ∀ a ∈ hid, (h.get? a).isSome = true) : h.objs.size ∉ hid := fresh_of live (Nat.le_refl _)
set_option tactic.hygienic true in
theorem add_sound (live : ∀ a ∈ hid, (s.heap.get? a).isSome = true) (h : addW a b K) (ha : Rep X (hideAll s.heap hid) va a) (hb : Rep X (hideAll s.heap hid) vb b) :
    wpAny (model X.prog X.w) A (binaryOp .Add va vb) (Res X hid K s) NoE s := by
  cases a <;> first | exact h.elim | skip
  · rename_i x
    exact ii_sound (P := fun x y => K (.int (x + y))) (show iiW (.int x) b (fun x y => K (.int (x + y))) from h) ha hb fun _ _ _ _ h => add_int (resI h)
  · rename_i x
    cases strW_inv h with | mk h =>
    cases ha with | str ta oa =>
    cases hb with | str tb ob =>
    obtain ⟨hl, h⟩ := onlyT_inv h
    rw [sapp_eq] at h
    exact add_str (fun t' tk => ⟨_, h, .str _ _ (strOk_app oa ob), .toks _ _⟩) (by
      rw [sizeLine_eq]; have := Nat.le_of_ble_eq_true hl; simp only [Str.length, ← Array.length_toList]; (first | lia | omega))
  · cases lstW_inv h with | @mk y h =>
    obtain ⟨hl, h⟩ := onlyT_inv h
    cases ha with | @lst a1 vs1 z1 t1 r1 =>
    cases hb with | @lst a2 vs2 z2 t2 r2 =>
    obtain ⟨⟨cls, dd, data, sl⟩, ho, hc, n, hd⟩ := isList_keeps t1 (stays_out hid)
    obtain ⟨⟨cls2, dd2, data2, sl2⟩, ho2, hc2, n2, hd2⟩ := isList_keeps t2 (stays_out hid)
    dsimp only at hc hd hc2 hd2
    subst hc hd hc2 hd2
    have hsz : vs1.size + vs2.size ≤ 1000 := by
      have e1 := RepL.length r1
      have e2 := RepL.length r2
      have := Nat.le_of_ble_eq_true hl
      rw [Array.length_toList] at e1 e2
      (first | lia | omega)
    refine concat_meets ⟨_, ho, rfl⟩ ⟨_, ho2, rfl⟩ noFill_list_add seq_list_add PySem.F.slot_list_add PySem.F.entry_list_add (PySem.F.args_list_add_2 _ _) (list_addW _ _ vs1 vs2 n n2 dd dd2 sl sl2 (by rw [sizeLine_eq]; (first | lia | omega))) ⟨ho, ho2, ?_⟩
    have st : s.heap.StaysIn (s.heap.push { cls := .type "list", data := .seq (vs1 ++ vs2) }) := stays_push _
    exact ⟨_, h, .lst (by rw [Array.size_append]; exact hsz) ⟨_, hideAll_get _ (Heap.get?_push_size _ rfl) (fresh_hid live), rfl, _, rfl⟩ (by rw [Array.toList_append]; exact RepL.keeps (RepL.append r1 r2) (stays_hid hid st)), .heap' st⟩
theorem binW_sound {op : Operator} (live : ∀ a ∈ hid, (s.heap.get? a).isSome = true) (h : binW op a b K) (ha : Rep X (hideAll s.heap hid) va a) (hb : Rep X (hideAll s.heap hid) vb b) :
    wpAny (model X.prog X.w) A (binaryOp op va vb) (Res X hid K s) NoE s := by
  cases op <;> first | exact h.elim | skip
  · exact add_sound live h ha hb
  · exact ii_sound h ha hb fun _ _ _ _ h => sub_int (resI h)
  · exact ii_sound h ha hb fun _ _ _ _ h => mul_int (resI h.2) (IntMulOk.of_left (intBits_le h.1.1))
  · exact ii_sound h ha hb fun _ _ _ _ h => mod_int h.1 (resI h.2)
  · exact ii_sound h ha hb fun _ _ _ _ h => lshift_int h.1.1 (by have := intBits_le h.1.2.2; have := h.1.2.1; (first | lia | omega)) (resI h.2)
  · exact ii_sound h ha hb fun _ _ _ _ h => rshift_int h.1 (resI h.2)
  · exact ii_sound h ha hb fun _ _ _ _ h => or_int (resI h)
  · exact ii_sound h ha hb fun _ _ _ _ h => xor_int (resI h)
  · exact ii_sound h ha hb fun _ _ _ _ h => and_int (resI h)
  · exact ii_sound h ha hb fun _ y _ _ h => floordiv_int h.1.1 (resI h.2) (.inl (PyProof.noPylong_of_log2 (by have := log_lt (x := y) (by have := h.1.1; (first | lia | omega)) h.1.2; (first | lia | omega))))
end

noncomputable def intW (a : D) (K : Int → Prop) : Prop := match a with
  | .int x => K x
  | _ => False
inductive IN (K : Int → Prop) : D → Prop
  | mk {x : Int} : K x → IN K (.int x)
theorem intW_inv {a : D} {K : Int → Prop} (h : intW a K) : IN K a := by
  cases a <;> first | exact h.elim | exact .mk h
noncomputable def negW (a : D) (K : D → Prop) : Prop := intW a fun x => K (.int (-x))
theorem negW_sound {X : Wd} {hid : List Addr} {A : Around} {s : Shared} {a : D} {K : D → Prop} {va : Value} (h : negW a K) (ha : Rep X (hideAll s.heap hid) va a) :
    wpAny (model X.prog X.w) A (unaryOp .USub va) (Res X hid K s) NoE s := by
  cases intW_inv h with | mk h =>
  cases ha; exact neg_int (resI h)

noncomputable def truW (a : D) (K : Bool → Prop) : Prop := match a with
  | .bool b => K b
  | .none => K false
  | _ => False
theorem truW_sound {X : Wd} {hid : List Addr} {A : Around} {s : Shared} {a : D} {K : Bool → Prop} {va : Value} (h : truW a K) (ha : Rep X (hideAll s.heap hid) va a) :
    wpAny (model X.prog X.w) A (truthy va) (fun b s' => K b ∧ s' = s) NoE s := by
  cases a <;> first | exact h.elim | skip
  · cases ha; exact truthy_none ⟨h, rfl⟩
  · cases ha; exact wpAny_truthy_bool ⟨h, rfl⟩

mutual
noncomputable def eqb : D → D → Bool
  | .none => fun b => (match b with | .none => true | _ => false)
  | .int x => fun b => (match b with | .int y => decide (x = y) | _ => false)
  | .str x => fun b => (match b with | .str y => seqb x y | _ => false)
  | .tup x => fun b => (match b with | .tup y => eqbs x y | _ => false)
  | .lst x => fun b => (match b with | .lst y => eqbs x y | _ => false)
  | _ => fun _ => false
noncomputable def eqbs : List D → List D → Bool
  | [] => fun b => (match b with | [] => true | _ :: _ => false)
  | x :: xs => fun b => (match b with | [] => false | y :: ys => eqb x y && eqbs xs ys)
end
theorem seqb_beq (x y : Str) : seqb x y = (x == y) := by
  by_cases e : x = y
  · subst e; rw [seqb_self]; simp
  · rw [seqb_false e]; simpa using e
inductive PyA : D → PyData → Prop
  | none : PyA .none .none
  | int (i : Int) : PyA (.int i) (.int i)
  | str (s : Str) : PyA (.str s) (.str s)
  | tup {l : List D} {ps : List PyData} : toPys l = some ps → PyA (.tup l) (.tuple ps)
  | lst {l : List D} {ps : List PyData} : toPys l = some ps → PyA (.lst l) (.list ps)
set_option tactic.hygienic true in
theorem toPy_inv {d : D} {p : PyData} (h : toPy d = some p) : PyA d p := by
  cases d <;> first
    | (cases h; done)
    | (cases h; first | exact .none | exact .int _ | exact .str _)
    | (rename_i l; have h : (toPys l).map _ = some p := h; cases e : toPys l with
        | none => rw [e] at h; cases h
        | some ps => rw [e] at h; cases h; first | exact .tup e | exact .lst e)
mutual
theorem eqv_eqb : ∀ (a : D) {b : D} {p q : PyData}, toPy a = some p → toPy b = some q → PyData.eqv p q = eqb a b
  | .none, _, _, _, h1, h2 => by cases h1; cases toPy_inv h2 <;> rfl
  | .int _, _, _, _, h1, h2 => by cases h1; cases toPy_inv h2 <;> rfl
  | .str x, _, _, _, h1, h2 => by
    cases h1
    cases toPy_inv h2 with
    | str y => exact (seqb_beq x y).symm
    | none => rfl
    | int => rfl
    | tup => rfl
    | lst => rfl
  | .tup x, _, _, _, h1, h2 => by
    cases toPy_inv h1 with | tup e =>
    cases toPy_inv h2 with
    | tup e2 => exact eqvs_eqbs x e e2
    | none => rfl
    | int => rfl
    | str => rfl
    | lst => rfl
  | .lst x, _, _, _, h1, h2 => by
    cases toPy_inv h1 with | lst e =>
    cases toPy_inv h2 with
    | lst e2 => exact eqvs_eqbs x e e2
    | none => rfl
    | int => rfl
    | str => rfl
    | tup => rfl
  | .bool _, _, _, _, h1, _ => nomatch h1
  | .dct _, _, _, _, h1, _ => nomatch h1
  | .fac _, _, _, _, h1, _ => nomatch h1
  | .wel, _, _, _, h1, _ => nomatch h1
  | .fn _, _, _, _, h1, _ => nomatch h1
  | .bi _, _, _, _, h1, _ => nomatch h1
theorem eqvs_eqbs : ∀ (a : List D) {b : List D} {p q : List PyData}, toPys a = some p → toPys b = some q → PyData.eqvAll p q = eqbs a b
  | [], [], _, _, h1, h2 => by cases h1; cases h2; rfl
  | [], _ :: _, _, _, h1, h2 => by
    obtain ⟨x, ps, _, _, rfl⟩ := bind2 h2
    cases h1; rfl
  | _ :: _, [], _, _, h1, h2 => by
    obtain ⟨x, ps, _, _, rfl⟩ := bind2 h1
    cases h2; rfl
  | x :: xs, y :: ys, _, _, h1, h2 => by
    obtain ⟨x', ps, e1, e2, rfl⟩ := bind2 h1
    obtain ⟨y', qs, e3, e4, rfl⟩ := bind2 h2
    show (PyData.eqv x' y' && PyData.eqvAll ps qs) = (eqb x y && eqbs xs ys)
    rw [eqv_eqb x e1 e3, eqvs_eqbs xs e2 e4]
end

-- plain, and not too deep
mutual
noncomputable def plainB : D → Nat → Bool
  | .none => fun _ => true
  | .int _ => fun _ => true
  | .str _ => fun _ => true
  | .tup l => fun n => (match n with | 0 => false | n + 1 => plainBs l n)
  | .lst l => fun n => (match n with | 0 => false | n + 1 => plainBs l n)
  | _ => fun _ => false
noncomputable def plainBs : List D → Nat → Bool
  | [] => fun _ => true
  | d :: ds => fun n => (match plainB d n with | true => plainBs ds n | false => false)
end
inductive Pl (d : D) (n : Nat) : Prop
  | mk {p : PyData} : toPy d = some p → p.depth ≤ n → Pl d n
inductive Pls (d : List D) (n : Nat) : Prop
  | mk {p : List PyData} : toPys d = some p → PyData.depthAll p ≤ n → Pls d n
theorem if_true' {a b : Bool} (h : (match a with | true => b | false => false) = true) : a = true ∧ b = true := by
  cases a
  · cases h
  · exact ⟨rfl, h⟩
mutual
theorem plainB_py : ∀ (d : D) {n : Nat}, plainB d n = true → Pl d n
  | .none, _, _ => .mk rfl (Nat.zero_le _)
  | .int _, _, _ => .mk rfl (Nat.zero_le _)
  | .str _, _, _ => .mk rfl (Nat.zero_le _)
  | .tup l, n, h => by
    cases n with
    | zero => cases h
    | succ n => cases plainBs_py l h with | mk e q => exact .mk (p := .tuple _) (show (toPys l).map _ = _ by rw [e]; rfl) (Nat.succ_le_succ q)
  | .lst l, n, h => by
    cases n with
    | zero => cases h
    | succ n => cases plainBs_py l h with | mk e q => exact .mk (p := .list _) (show (toPys l).map _ = _ by rw [e]; rfl) (Nat.succ_le_succ q)
  | .bool _, _, h => nomatch h
  | .dct _, _, h => nomatch h
  | .fac _, _, h => nomatch h
  | .wel, _, h => nomatch h
  | .fn _, _, h => nomatch h
  | .bi _, _, h => nomatch h
theorem plainBs_py : ∀ (ds : List D) {n : Nat}, plainBs ds n = true → Pls ds n
  | [], _, _ => .mk rfl (Nat.zero_le _)
  | d :: ds, n, h => by
    obtain ⟨h1, h2⟩ := if_true' (a := plainB d n) h
    cases plainB_py d h1 with | mk e q =>
    cases plainBs_py ds h2 with | mk e' q' =>
    exact .mk (p := _ :: _) (show (toPy d).bind _ = _ by rw [e, e']; rfl) (Nat.max_le.mpr ⟨q, q'⟩)
end

noncomputable def plEq (a b : D) (K : Bool → Prop) : Prop := onlyT (plainB a 6) (onlyT (plainB b 6) (K (eqb a b)))
noncomputable def eqW (a b : D) (K : Bool → Prop) : Prop := match a with
  | .bool x => (match b with | .bool y => K (x == y) | _ => False)
  | .int x => (match b with | .int y => K (decide (x = y)) | b => plEq (.int x) b K)
  | .str x => (match b with | .str y => K (seqb x y) | b => plEq (.str x) b K)
  | a => plEq a b K
inductive EqA (K : Bool → Prop) : D → D → Prop
  | bool {x y : Bool} : K (x == y) → EqA K (.bool x) (.bool y)
  | int {x y : Int} : K (decide (x = y)) → EqA K (.int x) (.int y)
  | str {x y : Str} : K (seqb x y) → EqA K (.str x) (.str y)
  | plain {a b : D} {p q : PyData} : toPy a = some p → toPy b = some q → p.depth ≤ 6 → q.depth ≤ 6 → K (PyData.eqv p q) → EqA K a b
theorem plEq_inv {a b : D} {K : Bool → Prop} (h : plEq a b K) : EqA K a b := by
  obtain ⟨h1, h⟩ := onlyT_inv h
  obtain ⟨h2, h⟩ := onlyT_inv h
  cases plainB_py a h1 with | mk e1 q1 =>
  cases plainB_py b h2 with | mk e2 q2 =>
  exact .plain e1 e2 q1 q2 (by rw [eqv_eqb a e1 e2]; exact h)
theorem eqW_inv {a b : D} {K : Bool → Prop} (h : eqW a b K) : EqA K a b := by
  cases a <;> first
    | exact plEq_inv h
    | (cases b <;> first | exact h.elim | exact .bool h | exact .int h | exact .str h | exact plEq_inv h)
noncomputable def anyEq (a : D) : List D → Bool
  | [] => false
  | d :: ds => eqb d a || anyEq a ds

section
variable {X : Wd} {hid : List Addr} {A : Around} {s : Shared} {a b : D} {K : Bool → Prop} {va vb : Value}
theorem shaped_of {p : PyData} {n : Nat} (h1 : p.canLay0 = true) (h2 : p.depth ≤ n) (hn : n ≤ 64) : SeqAt.shaped p = true := by
  unfold SeqAt.shaped; rw [h1, Bool.true_and]; exact decide_eq_true (Nat.le_trans h2 hn)
theorem eqW_sound (hu : A.units + 64 < cLine) (h : eqW a b K) (ha : Rep X (hideAll s.heap hid) va a) (hb : Rep X (hideAll s.heap hid) vb b) :
    wpAny (model X.prog X.w) A (compareOp .Eq va vb) (ResB K s) NoE s := by
  cases eqW_inv h with
  | bool h => cases ha; cases hb; exact eq_bool (.at h)
  | int h => cases ha; cases hb; exact eq_int (.at h)
  | str h => cases ha; cases hb; exact eq_str (.at (by rw [← seqb_beq]; exact h))
  | plain e1 e2 q1 q2 h =>
    cases reads_of a (ha.keeps (stays_out hid)) e1 with | mk ra ca =>
    cases reads_of b (hb.keeps (stays_out hid)) e2 with | mk rb cb =>
    exact eq_dataH ra rb (shaped_of ca q1 (by decide)) (shaped_of cb q2 (by decide)) hu (.at h)
theorem neW_sound (hu : A.units + 64 < cLine) (h : eqW a b fun c => K (!c)) (ha : Rep X (hideAll s.heap hid) va a) (hb : Rep X (hideAll s.heap hid) vb b) :
    wpAny (model X.prog X.w) A (compareOp .NotEq va vb) (ResB K s) NoE s := by
  cases eqW_inv h with
  | bool h => cases ha; cases hb; exact ne_bool (.at h)
  | int h => cases ha; cases hb; exact ne_int (.at h)
  | str h => cases ha; cases hb; exact ne_str (.at (by rw [bne, ← seqb_beq]; exact h))
  | plain e1 e2 q1 q2 h =>
    cases reads_of a (ha.keeps (stays_out hid)) e1 with | mk ra ca =>
    cases reads_of b (hb.keeps (stays_out hid)) e2 with | mk rb cb =>
    exact ne_dataH ra rb (shaped_of ca q1 (by decide)) (shaped_of cb q2 (by decide)) hu (.at h)
theorem any_eqv {q : PyData} (ha : toPy a = some q) : ∀ {ds : List D} {ps : List PyData}, toPys ds = some ps → (ps.any fun y => PyData.eqv y q) = anyEq a ds
  | [], _, e => by cases e; rfl
  | d :: ds, _, e => by
    obtain ⟨x, ps, e1, e2, rfl⟩ := bind2 e
    show (PyData.eqv x q || ps.any _) = (eqb d a || anyEq a ds)
    rw [any_eqv ha e2, eqv_eqb d e1 ha]

noncomputable def plIn (a : D) (l : List D) (K : Bool → Prop) : Prop := onlyT (plainB a 6) (onlyT (plainBs l 6) (K (anyEq a l)))
noncomputable def inW (a b : D) (K : Bool → Prop) : Prop := match b with
  | .dct l => strW a fun x => K (lk x l).isSome
  | .tup l => plIn a l K
  | .lst l => plIn a l K
  | _ => False
inductive InA (a : D) (l : List D) (K : Bool → Prop) : Prop
  | mk {q : PyData} {ps : List PyData} : toPy a = some q → toPys l = some ps → q.depth ≤ 6 → PyData.depthAll ps ≤ 6 → K (ps.any fun y => PyData.eqv y q) → InA a l K
theorem plIn_inv {l : List D} (h : plIn a l K) : InA a l K := by
  obtain ⟨h1, h⟩ := onlyT_inv h
  obtain ⟨h2, h⟩ := onlyT_inv h
  cases plainB_py a h1 with | mk e1 q1 =>
  cases plainBs_py l h2 with | mk e2 q2 =>
  exact .mk e1 e2 q1 q2 (by rw [any_eqv e1 e2]; exact h)
set_option tactic.hygienic true in
theorem inW_sound (hu : A.units + 64 < cLine) (h : inW a b K) (ha : Rep X (hideAll s.heap hid) va a) (hb : Rep X (hideAll s.heap hid) vb b) :
    wpAny (model X.prog X.w) A (compareOp .In va vb) (ResB K s) NoE s := by
  cases b <;> first | exact h.elim | skip
  · cases plIn_inv h with | mk e1 e2 q1 q2 h =>
    cases hb with | tup _ t1 t2 =>
    cases readsL_of _ (RepL.keeps t2 (stays_out hid)) e2 with | mk ra ca =>
    cases reads_of a (ha.keeps (stays_out hid)) e1 with | mk rb cb =>
    obtain ⟨o, ho, hc, n, hd⟩ := t1.keeps (stays_out hid)
    exact SeqAt.in_tuple_reads (.tuple ho hc hd ra) rb ca cb (by (first | lia | omega)) (.at h)
  · cases plIn_inv h with | mk e1 e2 q1 q2 h =>
    cases hb with | lst _ t1 t2 =>
    cases readsL_of _ (RepL.keeps t2 (stays_out hid)) e2 with | mk ra ca =>
    cases reads_of a (ha.keeps (stays_out hid)) e1 with | mk rb cb =>
    obtain ⟨o, ho, hc, n, hd⟩ := isList_keeps t1 (stays_out hid)
    exact SeqAt.in_list_reads (.list ho hc hd ra) rb ca cb (by (first | lia | omega)) (.at h)
  · rename_i l
    cases strW_inv h with | @mk x hk =>
    cases ha with | str t _ =>
    cases hb with | dct h1 h2 h3 h4 h5 =>
    refine wpAny_in_of (strKind_is X.prog X.w x t) h1 (mapOf_keeps h2 (stays_out hid)) ?_
    cases e : lk x l with
    | none => rw [h4 x e]; rw [e] at hk; exact .tk hk
    | some d => rw [h3 x d e]; rw [e] at hk; exact .tk hk
noncomputable def notInW (a b : D) (K : Bool → Prop) : Prop := match b with
  | .tup l => plIn a l fun c => K (!c)
  | _ => False
theorem notInW_sound (hu : A.units + 64 < cLine) (h : notInW a b K) (ha : Rep X (hideAll s.heap hid) va a) (hb : Rep X (hideAll s.heap hid) vb b) :
    wpAny (model X.prog X.w) A (compareOp .NotIn va vb) (ResB K s) NoE s := by
  cases b <;> first | exact h.elim | skip
  cases plIn_inv (K := fun c => K (!c)) (show plIn a _ _ from h) with | mk e1 e2 q1 q2 h =>
  cases hb with | tup _ t1 t2 =>
  cases readsL_of _ (RepL.keeps t2 (stays_out hid)) e2 with | mk ra ca =>
  cases reads_of a (ha.keeps (stays_out hid)) e1 with | mk rb cb =>
  obtain ⟨o, ho, hc, n, hd⟩ := t1.keeps (stays_out hid)
  exact SeqAt.notIn_tuple_reads (.tuple ho hc hd ra) rb ca cb (by (first | lia | omega)) (.at h)
end

noncomputable def isNoneW (a : D) (K : Bool → Prop) : Prop := match a with
  | .none => K true
  | .tup _ => K false
  | .int _ => K false
  | .str _ => K false
  | .lst _ => K false
  | .bool _ => K false
  | _ => False
noncomputable def ifNone (b : D) (P : Prop) : Prop := match b with
  | .none => P
  | _ => False
noncomputable def cmpW (op : CmpOp) (a b : D) (K : Bool → Prop) : Prop := match op with
  | .Lt => iiW a b fun x y => K (decide (x < y))
  | .LtE => iiW a b fun x y => K (decide (x ≤ y))
  | .Gt => iiW a b fun x y => K (decide (y < x))
  | .GtE => iiW a b fun x y => K (decide (y ≤ x))
  | .Eq => eqW a b K
  | .NotEq => eqW a b fun c => K (!c)
  | .In => inW a b K
  | .NotIn => notInW a b K
  | .Is => ifNone b (isNoneW a K)
  | .IsNot => ifNone b (isNoneW a fun c => K (!c))
section
variable {X : Wd} {hid : List Addr} {A : Around} {s : Shared} {a b : D} {K : Bool → Prop} {va vb : Value}
theorem isNoneW_is (h : isNoneW a K) (ha : Rep X (hideAll s.heap hid) va a) : wpAny (model X.prog X.w) A (compareOp .Is va .none) (ResB K s) NoE s := by
  cases a <;> first | exact h.elim | (cases ha; first | exact wpAny_is_self rfl (.at h) | exact is_ref_none (.at h) | exact is_int_none (.at h) | exact is_str_none (.at h) | exact is_bool_none (.at h))
theorem isNoneW_isNot (h : isNoneW a fun c => K (!c)) (ha : Rep X (hideAll s.heap hid) va a) : wpAny (model X.prog X.w) A (compareOp .IsNot va .none) (ResB K s) NoE s := by
  cases a <;> first | exact h.elim | (cases ha; first | exact wpAny_isNot_self rfl (.at h) | exact isnot_ref_none (.at h) | exact isnot_int_none (.at h) | exact isnot_str_none (.at h) | exact isnot_bool_none (.at h))
theorem ifNone_inv {b : D} {P : Prop} (h : ifNone b P) : b = .none ∧ P := by
  cases b <;> first | exact h.elim | exact ⟨rfl, h⟩
theorem iic_sound {op : CmpOp} {P : Int → Int → Prop} (h : iiW a b P) (ha : Rep X (hideAll s.heap hid) va a) (hb : Rep X (hideAll s.heap hid) vb b)
    (k : ∀ x y t u, P x y → wpAny (model X.prog X.w) A (compareOp op (.int x t) (.int y u)) (ResB K s) NoE s) : wpAny (model X.prog X.w) A (compareOp op va vb) (ResB K s) NoE s := by
  cases iiW_inv h with | mk h =>
  cases ha; cases hb
  exact k _ _ _ _ h
theorem cmpW_sound {op : CmpOp} (hu : A.units + 64 < cLine) (h : cmpW op a b K) (ha : Rep X (hideAll s.heap hid) va a) (hb : Rep X (hideAll s.heap hid) vb b) :
    wpAny (model X.prog X.w) A (compareOp op va vb) (ResB K s) NoE s := by
  cases op
  · exact eqW_sound hu h ha hb
  · exact neW_sound hu h ha hb
  · exact iic_sound h ha hb fun _ _ _ _ h => lt_int (.at h)
  · exact iic_sound h ha hb fun _ _ _ _ h => le_int (.at h)
  · exact iic_sound h ha hb fun _ _ _ _ h => gt_int (.at h)
  · exact iic_sound h ha hb fun _ _ _ _ h => ge_int (.at h)
  · obtain ⟨rfl, h⟩ := ifNone_inv h
    cases hb; exact isNoneW_is h ha
  · obtain ⟨rfl, h⟩ := ifNone_inv h
    cases hb; exact isNoneW_isNot h ha
  · exact inW_sound hu h ha hb
  · exact notInW_sound hu h ha hb
end
end Mine.Internal

end
section
open PySem PySem.W PyProof.Rows PySem.Calls
set_option Elab.async false
set_option tactic.hygienic false
set_option genSizeOf false
set_option genInjectivity false
set_option linter.all false
set_option backward.match.sparseCases false
set_option bootstrap.genMatcherCode false
namespace Mine.Internal

structure Sg where
  cells : List Int
  spot : Int
  x : Int
noncomputable abbrev En := List (Str × D)
noncomputable def keyOf : List Nat → Nat → Nat
  | [], n => n
  | c :: r, n => keyOf r (n * 1114112 + c)
inductive GT where
  | nil
  | node (l : GT) (k : Nat) (y : Str) (d : D) (r : GT)
noncomputable def gfk (n : Nat) (x : Str) : GT → Option D
  | .nil => none
  | .node l k y d r => match Nat.beq n k with
    | true => (match seqb x y with | true => some d | false => none)
    | false => match Nat.blt n k with
      | true => gfk n x l
      | false => gfk n x r
noncomputable def gfind (x : Str) (t : GT) : Option D := gfk (keyOf x.cps.toList 1) x t
noncomputable def GT.all : GT → En
  | .nil => []
  | .node l _ y d r => l.all ++ (y, d) :: r.all
theorem gfk_mem {n : Nat} {x : Str} {d : D} : ∀ {t : GT}, gfk n x t = some d → (x, d) ∈ t.all
  | .nil, h => nomatch h
  | .node l k y e r, h => by
    simp only [gfk] at h
    simp only [GT.all, List.mem_append, List.mem_cons]
    split at h
    · split at h
      · rename_i q
        cases h
        exact .inr (.inl (by rw [seqb_iff.mp q]))
      · cases h
    · split at h
      · exact .inl (gfk_mem h)
      · exact .inr (.inr (gfk_mem h))
structure Gx where
  G : GT
  lvl : Nat
  ct : Nat → Addr → List D → Sg → (D → Sg → Prop) → Prop
structure Cx where
  kinds : List (Str × NameKind)
  kap : En

@[reducible] def WIf (b : Bool) (P Q : Prop) : Prop := @Bool.rec (fun _ => Prop) Q P b
theorem WIf.mk {b : Bool} {P Q : Prop} (t : b = true → P) (f : b = false → Q) : WIf b P Q := by
  cases b
  · exact f rfl
  · exact t rfl
theorem WIf.t {b : Bool} {P Q : Prop} (h : WIf b P Q) (e : b = true) : P := by subst e; exact h
theorem WIf.f {b : Bool} {P Q : Prop} (h : WIf b P Q) (e : b = false) : Q := by subst e; exact h
structure WM (o : Option D) (P : D → Prop) (Q : Prop) : Prop where
  some : ∀ d, o = Option.some d → P d
  none : o = Option.none → Q
noncomputable def lok : List Nat → Bool
  | [] => true
  | c :: r => match Nat.blt c 1114112 with
    | true => lok r
    | false => false
theorem lok_all : ∀ {l : List Nat}, lok l = true → ∀ c ∈ l, c < 0x110000
  | [], _, _, h => nomatch h
  | d :: r, h, c, hc => by
    simp only [lok] at h
    split at h
    · rename_i hd
      rcases List.mem_cons.mp hc with rfl | hc
      · exact Nat.le_of_ble_eq_true hd
      · exact lok_all h c hc
    · cases h
theorem strOk_of {s : Str} (h : lok s.cps.toList = true) : PyData.strOk s = true := by
  unfold PyData.strOk
  rw [Array.all_eq_true']
  intro c hc
  exact decide_eq_true (lok_all h c (Array.mem_toList_iff.mpr hc))
noncomputable def constW (c : Const) (K : D → Prop) : Prop := match c with
  | .int i => K (.int i)
  | .str s => onlyT (lok s.cps.toList) (K (.str s))
  | .none => K .none
  | .bool b => K (.bool b)
  | _ => False

noncomputable def nameW (g : Gx) (cx : Cx) (ρ : En) (x : Str) (K : D → Prop) : Prop := match lk x ρ with
  | some d => K d
  | none => match lk x cx.kap with
    | some d => K d
    | none => match lk x cx.kinds with
      | some .globalImplicit => (match gfind x g.G with | some d => K d | none => False)
      | _ => False

noncomputable def idx (l : List D) (k : Int) (K : D → Prop) : Prop := match k with
  | .ofNat n => match l[n]? with | some d => K d | none => False
  | .negSucc _ => False
noncomputable def someW {α : Type} (o : Option α) (K : α → Prop) : Prop := match o with
  | some d => K d
  | none => False
noncomputable def natW (k : Int) (K : Nat → Prop) : Prop := match k with
  | .ofNat n => K n
  | .negSucc _ => False
noncomputable def one1 {α : Type} (l : List α) (K : α → Prop) : Prop := match l with
  | [] => False
  | a :: r => (match r with
    | [] => K a
    | _ :: _ => False)
noncomputable def nil1 {α : Type} (l : List α) (P : Prop) : Prop := match l with
  | [] => P
  | _ :: _ => False
noncomputable def tupW (d : D) (K : List D → Prop) : Prop := match d with
  | .tup l => K l
  | _ => False
noncomputable def subW (a i : D) (σ : Sg) (K : D → Prop) : Prop := match a with
  | .tup l => intW i fun k => idx l k K
  | .lst l => intW i fun k => idx l k K
  | .dct l => strW i fun x => someW (lk x l) K
  | .str s => intW i fun k => natW k fun n => onlyT (Nat.ble n 1000) (someW s.cps.toList[n]? fun c => K (.str ⟨#[c]⟩))
  | .wel => intW i fun k => natW k fun n => (match n with
    | 0 => K (.lst (σ.cells.map D.int))
    | 1 => K (.int σ.spot)
    | 2 => K (.int σ.x)
    | _ => False)
  | _ => False
noncomputable def cutW (a i : D) (K : D → Prop) : Prop := strW a fun s => intW i fun k => natW k fun n =>
  onlyT (Nat.ble n s.cps.toList.length) (onlyT (Nat.ble s.cps.toList.length 1000) (K (.str ⟨(s.cps.toList.drop n).toArray⟩)))

noncomputable def sint : Int → Option Str
  | .ofNat 8 => some ⟨#[56]⟩
  | .ofNat 16 => some ⟨#[49, 54]⟩
  | .ofNat 32 => some ⟨#[51, 50]⟩
  | _ => none
noncomputable def biW (b : Bi) (ds : List D) (K : D → Prop) : Prop := one1 ds fun d => match b with
  | .len => lstW d fun l => K (.int l.length)
  | .abs => intW d fun x => K (.int (if x < 0 then -x else x))
  | .int => (match d with
    | .int x => K (.int x)
    | .bool b => K (.int (if b then 1 else 0))
    | _ => False)
  | .str => intW d fun x => someW (sint x) fun s => K (.str s)
  | .list => lstW d fun l => K (.lst l)
  | _ => False
noncomputable def callW (g : Gx) (f : D) (ds : List D) (σ : Sg) (Q : D → Sg → Prop) : Prop := match f with
  | .fn a => g.ct g.lvl a ds σ Q
  | .bi b => biW b ds fun d => Q d σ
  | _ => False

noncomputable def idxS (x : Str) : List D → Option Nat
  | .str y :: r => match seqb y x with | true => some 0 | false => (idxS x r).map (· + 1)
  | _ => none
noncomputable def sBitLength : Str := ⟨#[98, 105, 116, 95, 108, 101, 110, 103, 116, 104]⟩
noncomputable def sIndex : Str := ⟨#[105, 110, 100, 101, 120]⟩
noncomputable def sShape : Str := ⟨#[115, 104, 97, 112, 101]⟩
noncomputable def pairW (d : D) (K : Str → Int → Prop) : Prop := tupW d fun l => match l with
  | [] => False
  | a :: r => strW a fun s => one1 r fun b => intW b fun i => K s i
noncomputable def shapeAt (l : List (Int × D)) (d : D) (K : D → Prop) : Prop := pairW d fun s i => match seqb s ⟨#[114]⟩ with
  | true => WM (lki i l) K (K .none)
  | false => K .none
noncomputable def methW (o : D) (name : Str) (ds : List D) (K : D → Prop) : Prop := match o with
  | .int x => nil1 ds (onlyT (seqb name sBitLength) (K (.int (Builtin.Int.intBits x))))
  | .fac l => one1 ds fun d => onlyT (seqb name sShape) (shapeAt l d K)
  | _ => False

noncomputable def methOk (o : D) (name : Str) : Bool := match o with
  | .int _ => seqb name sBitLength
  | .fac _ => seqb name sShape
  | _ => false
noncomputable def isStar : Expr → Bool
  | .Starred .. => true
  | _ => false
noncomputable def noStar : List Expr → Bool
  | [] => true
  | e :: r => match isStar e with | true => false | false => noStar r
noncomputable def tupOf : Expr → Option (List Expr)
  | .Tuple es _ _ => some es
  | _ => none
noncomputable def intOf : Expr → Option Int
  | .Constant c _ _ => (match c with
    | .int i => some i
    | _ => none)
  | _ => none
noncomputable def isMult : Operator → Bool
  | .Mult => true
  | _ => false
noncomputable def twoTup (l : Expr) (op : Operator) (r : Expr) : Option Expr := match tupOf l with
  | some es => (match es with
    | [] => none
    | e :: t => (match t with
      | [] => (match isMult op, isTwo r, isStar e with
        | true, true, false => some e
        | _, _, _ => none)
      | _ :: _ => none))
  | none => none
where isTwo (r : Expr) : Bool := match intOf r with
  | some i => (match i with
    | .ofNat n => Nat.beq n 2
    | .negSucc _ => false)
  | none => false
noncomputable def strOf : Option Expr → Option Str
  | some e => (match e with
    | .Constant c _ _ => (match c with
      | .str s => some s
      | _ => none)
    | _ => none)
  | none => none
noncomputable def dict2W (ks : List (Option Expr)) (vs : List Expr) (K : Str → Int → Str → Int → Prop) : Prop := match ks with
  | [] => False
  | a :: ks => someW (strOf a) fun k1 => one1 ks fun b => someW (strOf b) fun k2 => (match vs with
    | [] => False
    | v :: vs => someW (intOf v) fun i1 => one1 vs fun u => someW (intOf u) fun i2 => (match seqb k2 k1 with
      | true => False
      | false => onlyT (lok k1.cps.toList) (onlyT (lok k2.cps.toList) (K k1 i1 k2 i2))))
noncomputable def isSetE : Expr → Bool
  | .Set .. => true
  | _ => false
noncomputable def attrOk : Expr → Bool
  | .Name .. => true
  | _ => false
noncomputable def allS : List D → Bool
  | [] => true
  | .str _ :: r => allS r
  | _ => false
noncomputable def indexW (ds : List D) (d : D) (K : D → Prop) : Prop := strW d fun x => onlyT (allS ds) (someW (idxS x ds) fun j => K (.int j))
noncomputable def callOk : Expr → Bool
  | .Name .. => true
  | .Subscript .. => true
  | _ => false
noncomputable def isSliceE : Expr → Bool
  | .Slice .. => true
  | _ => false
noncomputable def plainTest : Expr → Bool
  | .Name .. => true
  | .Call .. => true
  | _ => false

noncomputable def isLocalK : Option NameKind → Bool
  | some .local => true
  | _ => false
noncomputable def asgW (cx : Cx) (x : Str) (d : D) (ρ : En) (K : En → Prop) : Prop := onlyT (isLocalK (lk x cx.kinds)) (K ((x, d) :: ρ))
noncomputable def nmW (e : Expr) (K : Str → Prop) : Prop := match e with
  | .Name x _ => K x
  | _ => False
noncomputable def asgsW (cx : Cx) (ts : List Expr) : List D → En → (En → Prop) → Prop :=
  List.rec (motive := fun _ => List D → En → (En → Prop) → Prop) (fun ds ρ K => nil1 ds (K ρ)) (fun t _ ih ds ρ K => (match ds with
    | [] => False
    | d :: ds => nmW t fun x => asgW cx x d ρ fun ρ => ih ds ρ K)) ts
noncomputable def tgtW (cx : Cx) (t : Expr) (d : D) (ρ : En) (K : En → Prop) : Prop := match t with
  | .Name x _ => asgW cx x d ρ K
  | .Tuple ts _ _ => tupW d fun ds => asgsW cx ts ds ρ K
  | _ => False

noncomputable def inS (x : Str) : List Str → Bool
  | [] => false
  | y :: r => match seqb x y with | true => true | false => inS x r
noncomputable def reN (a : En) : En → En :=
  List.rec (motive := fun _ => En → En) (fun _ => []) (fun p _ ih ρ => (match lk p.1 ρ with
    | some d => (p.1, d) :: ih ρ
    | none => ih ρ)) a
theorem reN_lk {y : Str} {d : D} {ρ : En} : ∀ {a : En}, lk y (reN a ρ) = some d → lk y ρ = some d
  | [], h => nomatch h
  | (x, e) :: r, h => by
    have h : lk y (match lk x ρ with | some d => (x, d) :: reN r ρ | none => reN r ρ) = some d := h
    cases q : lk x ρ with
    | none => rw [q] at h; exact reN_lk h
    | some d' =>
      rw [q] at h
      by_cases e : y = x
      · subst e; rw [q]; rw [lk_cons_self] at h; exact h
      · rw [lk_cons_ne e] at h; exact reN_lk h
noncomputable def loopW (bind : D → En → (En → Prop) → Prop) (body : En → Sg → (En → Sg → Prop) → Prop) (ds : List D) : En → Sg → (En → Sg → Prop) → Prop :=
  List.rec (motive := fun _ => En → Sg → (En → Sg → Prop) → Prop) (fun ρ σ K => K ρ σ) (fun d _ ih ρ σ K => bind d ρ fun ρ1 => body ρ1 σ fun ρ2 σ => ih (reN ρ ρ2) σ K) ds
inductive ForI (bind : D → En → (En → Prop) → Prop) (body : En → Sg → (En → Sg → Prop) → Prop) (ds : List D) (ρ : En) (σ : Sg) (K : En → Sg → Prop) : Prop
  | mk (h : loopW bind body ds ρ σ K) : ForI bind body ds ρ σ K
noncomputable def compW (bind : D → (En → Prop) → Prop) (test : En → Sg → (Bool → Sg → Prop) → Prop) (elt : En → Sg → (D → Sg → Prop) → Prop) (ds : List D) : Sg → (List D → Sg → Prop) → Prop :=
  List.rec (motive := fun _ => Sg → (List D → Sg → Prop) → Prop) (fun σ K => K [] σ) (fun d _ ih σ K => bind d fun ρ => test ρ σ fun c σ => WIf c (elt ρ σ fun e σ => ih σ fun es σ => K (e :: es) σ) (ih σ K)) ds

noncomputable def nameB (g : Gx) (cx : Cx) (ρ : En) (x : Str) : Option Bi := match lk x ρ with
  | some _ => none
  | none => match lk x cx.kap with
    | some _ => none
    | none => match lk x cx.kinds with
      | some .globalImplicit => (match gfind x g.G with | some (.bi b) => some b | _ => none)
      | _ => none
noncomputable def rangeF : Nat → Nat → List D
  | _, 0 => []
  | i, n + 1 => .int (Int.ofNat i) :: rangeF (i + 1) n
noncomputable def rangeD (n : Nat) : List D := rangeF 0 n
noncomputable def enumD : Nat → List D → List D
  | _, [] => []
  | i, d :: ds => .tup [.int (Int.ofNat i), d] :: enumD (i + 1) ds
noncomputable def itemsW (d : D) (K : List D → Prop) : Prop := match d with
  | .tup l => K l
  | .lst l => K l
  | _ => False
noncomputable def isCallE : Expr → Bool
  | .Call .. => true
  | _ => false
noncomputable def isCompE : Expr → Bool
  | .ListComp .. => true
  | .SetComp .. => true
  | .DictComp .. => true
  | _ => false

noncomputable def sDebug : Str := ⟨#[95, 95, 100, 101, 98, 117, 103, 95, 95]⟩
noncomputable def sClassdict : Str := ⟨#[95, 95, 99, 108, 97, 115, 115, 100, 105, 99, 116, 95, 95]⟩
noncomputable def goodK (all : List (Str × NameKind)) (kap : En) (x : Str) : NameKind → Bool
  | .local => isLocalK (lk x all)
  | .free => (lk x kap).isSome
  | .globalImplicit => true
  | _ => false
noncomputable def goodNames (all : List (Str × NameKind)) (kap : En) : List (Str × NameKind) → Bool
  | [] => true
  | (x, k) :: r => !seqb x sDebug && (!seqb x sClassdict && (goodK all kap x k && goodNames all kap r))
noncomputable def isFnK : ScopeKind → Bool
  | .function => true
  | _ => false
noncomputable def compOk (sc : Scope) (kap : En) : Bool := match isFnK sc.kind with
  | true => goodNames sc.names kap sc.names
  | false => false
noncomputable def capK (names : List (Str × NameKind)) : En → En
  | [] => []
  | (x, d) :: r => match lk x names with
    | some .free => (x, d) :: capK names r
    | _ => capK names r

noncomputable def sliceOf : Expr → Option (Option Expr)
  | .Slice l u st _ => some (match l, u, st with
    | some i, none, none => some i
    | _, _, _ => none)
  | _ => none
noncomputable def attrW (f : Expr) (K : Expr → Str → Pos → Prop) (Z : Prop) : Prop := match f with
  | .Attribute o name apos => K o name apos
  | _ => Z
noncomputable def listOf : Expr → Option (List Expr)
  | .List es _ => some es
  | _ => none
noncomputable def genW (gens : List Comprehension) (K : Expr → Expr → List Expr → Prop) : Prop := one1 gens fun c => match c with
  | ⟨target, iter, ifs, a⟩ => natW a fun k => (match k with
    | 0 => K target iter ifs
    | _ + 1 => False)
noncomputable def isTupE : Expr → Bool
  | .Tuple .. => true
  | _ => false

structure Rc where
  e : Cx → Expr → En → Sg → (D → Sg → Prop) → Prop
  ifs : Cx → List Expr → En → Sg → (Bool → Sg → Prop) → Prop
  it : Cx → Expr → Expr → En → Sg → (List D → Sg → Prop) → Prop
  es : Cx → List Expr → En → Sg → (List D → Sg → Prop) → Prop
  b : Cx → BoolOp → List Expr → En → Sg → (D → Sg → Prop) → Prop
  t : Cx → Expr → En → Sg → (Bool → Sg → Prop) → Prop
  ts : Cx → BoolOp → List Expr → En → Sg → (Bool → Sg → Prop) → Prop
  s : Cx → Stmt → En → Sg → (En → Sg → Prop) → (D → Sg → Prop) → Prop
  ss : Cx → List Stmt → En → Sg → (En → Sg → Prop) → (D → Sg → Prop) → Prop
noncomputable def botR : Rc := ⟨fun _ _ _ _ _ => False, fun _ _ _ _ _ => False, fun _ _ _ _ _ _ => False, fun _ _ _ _ _ => False, fun _ _ _ _ _ _ => False, fun _ _ _ _ _ => False, fun _ _ _ _ _ _ => False, fun _ _ _ _ _ _ => False, fun _ _ _ _ _ _ => False⟩
noncomputable def stepE (g : Gx) (r0 : Rc) : Cx → Expr → En → Sg → (D → Sg → Prop) → Prop :=
  fun cx e ρ σ Q => match e with
    | .Constant c _ _ => constW c fun d => Q d σ
    | .Name x _ => nameW g cx ρ x fun d => Q d σ
    | .BinOp l op r _ => (match twoTup l op r with
      | some e => r0.e cx e ρ σ fun d σ => Q (.tup [d, d]) σ
      | none => r0.e cx l ρ σ fun a σ => r0.e cx r ρ σ fun b σ => binW op a b fun d => Q d σ)
    | .Dict ks vs _ => dict2W ks vs fun k1 i1 k2 i2 => Q (.dct [(k1, .int i1), (k2, .int i2)]) σ
    | .UnaryOp op x _ => (match op with
      | .USub => r0.e cx x ρ σ fun a σ => negW a fun d => Q d σ
      | _ => False)
    | .BoolOp op vs _ => r0.b cx op vs ρ σ Q
    | .IfExp t b o _ => r0.t cx t ρ σ fun c σ => WIf c (r0.e cx b ρ σ Q) (r0.e cx o ρ σ Q)
    | .Compare l ops rs _ => one1 ops fun op => one1 rs fun r => (match isSetE r with
      | true => False
      | false => r0.e cx l ρ σ fun a σ => r0.e cx r ρ σ fun b σ => cmpW op a b fun c => Q (.bool c) σ)
    | .Tuple es _ _ => onlyT (noStar es) (onlyT (Nat.ble es.length 1000) (r0.es cx es ρ σ fun ds σ => Q (.tup ds) σ))
    | .List es _ => onlyT (noStar es) (onlyT (Nat.ble es.length 1000) (r0.es cx es ρ σ fun ds σ => Q (.lst ds) σ))
    | .Subscript v i _ => (match sliceOf i with
      | some o => someW o fun i => r0.e cx v ρ σ fun a σ => r0.e cx i ρ σ fun b σ => cutW a b fun d => Q d σ
      | none => r0.e cx v ρ σ fun a σ => r0.e cx i ρ σ fun b σ => subW a b σ fun d => Q d σ)
    | .Call f args kws pos => nil1 kws (attrW f (fun o name apos => onlyT (apos.endLine == pos.line) (onlyT (noStar args) (match listOf o with
        | some es => onlyT (noStar es) (onlyT (Nat.ble es.length 1000) (onlyT (seqb name sIndex) (one1 args fun a =>
            r0.es cx es ρ σ fun ds σ => r0.es cx [a] ρ σ fun d σ => one1 d fun d => indexW ds d fun d => Q d σ)))
        | none => onlyT (attrOk o) (onlyT (Nat.ble args.length 20) (r0.e cx o ρ σ fun a σ =>
            onlyT (methOk a name) (r0.es cx args ρ σ fun ds σ => methW a name ds fun d => Q d σ))))))
        (onlyT (callOk f) (onlyT (noStar args) (r0.e cx f ρ σ fun a σ => r0.es cx args ρ σ fun ds σ => callW g a ds σ Q))))
    | .ListComp elt gens scope _ => genW gens fun target iter ifs => onlyT (compOk scope cx.kap) (r0.it cx target iter ρ σ fun ds σ =>
        compW (fun d K => tgtW ⟨scope.names, capK scope.names cx.kap⟩ target d [] K) (fun ρ σ K => r0.ifs ⟨scope.names, capK scope.names cx.kap⟩ ifs ρ σ K)
          (fun ρ σ K => r0.e ⟨scope.names, capK scope.names cx.kap⟩ elt ρ σ K) ds σ fun es σ => Q (.lst es) σ)
    | _ => False
noncomputable def stepIfs (g : Gx) (r0 : Rc) : Cx → List Expr → En → Sg → (Bool → Sg → Prop) → Prop :=
  fun cx ifs ρ σ K => match ifs with
    | [] => K true σ
    | t :: r => nil1 r (r0.t cx t ρ σ K)
noncomputable def stepIt (g : Gx) (r0 : Rc) : Cx → Expr → Expr → En → Sg → (List D → Sg → Prop) → Prop :=
  fun cx target iter ρ σ K => match isCallE iter with
    | true => (match iter with
      | .Call f args kws _ => nmW f fun x => nil1 kws (one1 args fun a => match isStar a with
        | true => False
        | false => someW (nameB g cx ρ x) fun b => r0.e cx a ρ σ fun d σ => (match b with
          | .range => intW d fun k => (0 ≤ k ∧ k ≤ 1000) ∧ K (rangeD k.toNat) σ
          | .enum => onlyT (isTupE target) (lstW d fun l => K (enumD 0 l) σ)
          | _ => False))
      | _ => False)
    | false => (match isSetE iter with
      | true => False
      | false => r0.e cx iter ρ σ fun d σ => itemsW d fun ds => K ds σ)
noncomputable def stepEs (g : Gx) (r0 : Rc) : Cx → List Expr → En → Sg → (List D → Sg → Prop) → Prop :=
  fun cx es ρ σ Q => match es with
    | [] => Q [] σ
    | e :: r => r0.e cx e ρ σ fun d σ => r0.es cx r ρ σ fun ds σ => Q (d :: ds) σ
noncomputable def stepB (g : Gx) (r0 : Rc) : Cx → BoolOp → List Expr → En → Sg → (D → Sg → Prop) → Prop :=
  fun cx op es ρ σ Q => match es with
    | [] => False
    | e :: r => (match r with
      | [] => r0.e cx e ρ σ Q
      | _ :: _ => r0.e cx e ρ σ fun v σ => truW v fun c => (match op with
        | .And => WIf c (r0.b cx op r ρ σ Q) (Q v σ)
        | .Or => WIf c (Q v σ) (r0.b cx op r ρ σ Q)))
noncomputable def stepT (g : Gx) (r0 : Rc) : Cx → Expr → En → Sg → (Bool → Sg → Prop) → Prop :=
  fun cx e ρ σ K => match e with
    | .UnaryOp op x _ => (match op with
      | .Not => r0.t cx x ρ σ fun c σ => K (!c) σ
      | _ => False)
    | .BoolOp op vs _ => r0.ts cx op vs ρ σ K
    | .Compare l ops rs _ => (match ops with
      | [] => False
      | op :: ops => (match rs with
        | [] => False
        | r :: rs => (match ops with
          | [] => nil1 rs (match isSetE r with
            | true => False
            | false => r0.e cx l ρ σ fun a σ => r0.e cx r ρ σ fun b σ => cmpW op a b fun c => K c σ)
          | op' :: ops => nil1 ops (one1 rs fun r' => (match isSetE r' with
            | true => False
            | false => r0.e cx l ρ σ fun a σ => r0.e cx r ρ σ fun b σ => cmpW op a b fun c =>
                WIf c (r0.e cx r' ρ σ fun b' σ => cmpW op' b b' fun c => K c σ) (K false σ))))))
    | e => onlyT (plainTest e) (r0.e cx e ρ σ fun v σ => truW v fun c => K c σ)
noncomputable def stepTs (g : Gx) (r0 : Rc) : Cx → BoolOp → List Expr → En → Sg → (Bool → Sg → Prop) → Prop :=
  fun cx op es ρ σ K => match es with
    | [] => K (op == .And) σ
    | e :: r => r0.t cx e ρ σ fun c σ => (match op with
      | .And => WIf c (r0.ts cx op r ρ σ K) (K false σ)
      | .Or => WIf c (K true σ) (r0.ts cx op r ρ σ K))

noncomputable def tsName (cx : Cx) (line : Nat) (t : Expr) : Option Str := match t with
  | .Name id pos => (match isLocalK (lk id cx.kinds) with
    | true => (match pos.line == line with
      | true => some id
      | false => none)
    | false => none)
  | _ => none
noncomputable def tsNames (cx : Cx) (line : Nat) : List Expr → Option (List Str)
  | [] => some []
  | t :: r => (match tsName cx line t with
    | some y => (tsNames cx line r).map (y :: ·)
    | none => none)
noncomputable def nodupS : List Str → Bool
  | [] => true
  | x :: r => match inS x r with | true => false | false => nodupS r
noncomputable def two3 (n : Nat) : Bool := Nat.beq n 2 || Nat.beq n 3
noncomputable def headLine : List Expr → Nat
  | [] => 0
  | t :: _ => t.pos.line
noncomputable def swpW (cx : Cx) (ts : List Expr) (value : Expr) (P : Prop) (K : List Str → Prop) : Prop := match tupOf value with
  | some vs => someW (tsNames cx (headLine ts) ts) fun names => onlyT (two3 ts.length && (Nat.beq vs.length ts.length && (noStar vs && (nodupS names && (!vs.all (foldedForSure 8) && !vs.all (constantsAlone 8)))))) (K names)
  | none => P
noncomputable def asgNs (cx : Cx) (ts : List Str) : List D → En → (En → Prop) → Prop :=
  List.rec (motive := fun _ => List D → En → (En → Prop) → Prop) (fun ds ρ K => nil1 ds (K ρ)) (fun x _ ih ds ρ K => (match ds with
    | [] => False
    | d :: ds => asgW cx x d ρ fun ρ => ih ds ρ K)) ts
noncomputable def seqD (d : D) (K : List D → Prop) : Prop := itemsW d K
noncomputable def welW (a d : D) (σ : Sg) (i : Nat) (K : Sg → Prop) : Prop := match a with
  | .wel => intW d fun k => (match i with
    | 1 => K { σ with spot := k }
    | 2 => K { σ with x := k }
    | _ => False)
  | _ => False

noncomputable def stepS (g : Gx) (r0 : Rc) : Cx → Stmt → En → Sg → (En → Sg → Prop) → (D → Sg → Prop) → Prop :=
  fun cx st ρ σ Qn Qr => match st with
    | .Return o _ => someW o fun e => r0.e cx e ρ σ Qr
    | .If t b o _ => r0.t cx t ρ σ fun c σ => WIf c (r0.ss cx b ρ σ Qn Qr) (r0.ss cx o ρ σ Qn Qr)
    | .Assign ts value _ => one1 ts fun t => (match t with
      | .Name x _ => r0.e cx value ρ σ fun d σ => asgW cx x d ρ fun ρ => Qn ρ σ
      | .Tuple ts _ _ => (match isCompE value with
        | true => False
        | false => swpW cx ts value (r0.e cx value ρ σ fun d σ => itemsW d fun ds => asgsW cx ts ds ρ fun ρ => Qn ρ σ)
            fun names => r0.e cx value ρ σ fun d σ => tupW d fun ds => asgNs cx names.reverse ds.reverse ρ fun ρ => Qn ρ σ)
      | .Subscript o i _ => (match isCompE value with
        | true => False
        | false => nmW o fun _ => someW (intOf i) fun k => natW k fun k => r0.e cx value ρ σ fun d σ => r0.e cx o ρ σ fun a σ => welW a d σ k fun σ => Qn ρ σ)
      | _ => False)
    | .For t it b o _ => nil1 o (r0.it cx t it ρ σ fun ds σ =>
        ForI (fun d ρ K => tgtW cx t d ρ K) (fun ρ σ K => r0.ss cx b ρ σ K Qr) ds ρ σ Qn)
    | _ => False
noncomputable def stepSs (g : Gx) (r0 : Rc) : Cx → List Stmt → En → Sg → (En → Sg → Prop) → (D → Sg → Prop) → Prop :=
  fun cx sts ρ σ Qn Qr => match sts with
    | [] => Qn ρ σ
    | st :: r => r0.s cx st ρ σ (fun ρ σ => r0.ss cx r ρ σ Qn Qr) Qr

noncomputable def stepR (g : Gx) (r : Rc) : Rc := ⟨stepE g r, stepIfs g r, stepIt g r, stepEs g r, stepB g r, stepT g r, stepTs g r, stepS g r, stepSs g r⟩
noncomputable def WR (g : Gx) (n : Nat) : Rc := Nat.rec (motive := fun _ => Rc) botR (fun _ r => stepR g r) n
noncomputable abbrev wpE (g : Gx) (n : Nat) := (WR g n).e
noncomputable abbrev wpIfs (g : Gx) (n : Nat) := (WR g n).ifs
noncomputable abbrev wpIt (g : Gx) (n : Nat) := (WR g n).it
noncomputable abbrev wpEs (g : Gx) (n : Nat) := (WR g n).es
noncomputable abbrev wpB (g : Gx) (n : Nat) := (WR g n).b
noncomputable abbrev wpT (g : Gx) (n : Nat) := (WR g n).t
noncomputable abbrev wpTs (g : Gx) (n : Nat) := (WR g n).ts
noncomputable abbrev wpS (g : Gx) (n : Nat) := (WR g n).s
noncomputable abbrev wpSs (g : Gx) (n : Nat) := (WR g n).ss

end Mine.Internal

end
section
open PySem PySem.W PyProof.Rows PySem.Calls
set_option Elab.async false
set_option tactic.hygienic false
set_option genSizeOf false
set_option genInjectivity false
set_option linter.all false
set_option backward.match.sparseCases false
set_option bootstrap.genMatcherCode false
namespace Mine.Internal
inductive TS (K : List D → Prop) : D → Prop
  | mk {l : List D} : K l → TS K (.tup l)
theorem tupW_inv {d : D} {K : List D → Prop} (h : tupW d K) : TS K d := by
  cases d <;> first | exact h.elim | exact .mk h
inductive O1n {α : Type} (K : α → Prop) : List α → Prop
  | mk {a : α} : K a → O1n K [a]
theorem one1_inv {α : Type} {l : List α} {K : α → Prop} (h : one1 l K) : O1n K l := by
  cases l with
  | nil => exact h.elim
  | cons a r =>
    cases r with
    | nil => exact .mk h
    | cons => exact h.elim
theorem nil1_inv {α : Type} {l : List α} {P : Prop} (h : nil1 l P) : l = [] ∧ P := by
  cases l with
  | nil => exact ⟨rfl, h⟩
  | cons => exact h.elim
inductive Sm {α : Type} (K : α → Prop) : Option α → Prop
  | mk {a : α} : K a → Sm K (some a)
theorem someW_inv {α : Type} {o : Option α} {K : α → Prop} (h : someW o K) : ∃ a, o = some a ∧ K a := by
  cases o with
  | none => exact h.elim
  | some a => exact ⟨a, rfl, h⟩
inductive NA (K : Nat → Prop) : Int → Prop
  | mk {n : Nat} : K n → NA K (.ofNat n)
theorem natW_inv {k : Int} {K : Nat → Prop} (h : natW k K) : NA K k := by
  cases k with
  | ofNat n => exact .mk h
  | negSucc n => exact h.elim
theorem idx_inv {l : List D} {k : Int} {K : D → Prop} (h : idx l k K) : NA (fun n => ∃ d, l[n]? = some d ∧ K d) k := by
  cases k with
  | ofNat n =>
    refine .mk ?_
    have h : (match l[n]? with | some d => K d | none => False) := h
    cases e : l[n]? with
    | none => rw [e] at h; exact h.elim
    | some d => rw [e] at h; exact ⟨d, rfl, h⟩
  | negSucc n => exact h.elim

inductive WellAt (X : Wd) (hid : List Addr) (h : Heap) (σ : Sg) : Prop
  | mk (t1 t2 : Tok) (hl : h.IsList X.aw #[.ref X.ac, .int σ.spot t1, .int σ.x t2]) (hr : Rep X (hideAll h hid) (.ref X.ac) (.lst (σ.cells.map D.int)))

section
variable {X : Wd} {hid : List Addr} {A : Around} {s : Shared} {K : D → Prop}

theorem WellAt.grow {h h' : Heap} {σ : Sg} (x : WellAt X hid h σ) (st : h.StaysIn h') : WellAt X hid h' σ :=
  match x with | .mk t1 t2 a b => .mk t1 t2 (isList_keeps a st) (b.keeps (stays_hid hid st))

theorem tailItem {value slice : Expr} {o i : Value} {T id : String} {Q : Value → Shared → Prop} (hT : s.TypeIs o T) (hl : typeLookup (.type T) "__getitem__" = pure (some (.builtin id))) (hg : wpAny (model X.prog X.w) A (getItem o i) Q NoE s)
    (hs : sliceOf slice = none) : wpAny (model X.prog X.w) A (subscriptTail value slice o i) Q NoE s :=
  tail_any (ops := [o, i]) hT hl hg (by cases slice <;> first | rfl | exact nomatch hs)
theorem seqIndex_of {n m : Nat} (h1 : n < m) : seqIndex? (Int.ofNat n) m = some n := by
  unfold seqIndex?
  have e1 : ¬ Int.ofNat n < 0 := Int.not_lt.mpr (Int.natCast_nonneg n)
  have e2 : Int.ofNat n < (m : Int) := Int.ofNat_lt.mpr h1
  simp only [e1, if_false]
  simp [e2, Int.natCast_nonneg]
  exact h1
theorem small63 {n : Nat} (h : n ≤ 1000) : Int.ofNat n < 2 ^ 63 := Int.ofNat_lt.mpr (Nat.lt_of_le_of_lt h (by decide))
theorem small63' (n : Nat) : -(2 ^ 63) ≤ Int.ofNat n := Int.le_trans (by decide) (Int.natCast_nonneg n)
theorem lt_size {vs : Array Value} {n : Nat} {v : Value} (h : vs.toList[n]? = some v) : n < vs.size := by
  have := (List.getElem?_eq_some_iff.mp h).1
  rwa [Array.length_toList] at this
theorem strOk_one {x : Str} {c n : Nat} (ok : PyData.strOk x = true) (e : x.cps.toList[n]? = some c) : PyData.strOk ⟨#[c]⟩ = true := by
  have hm := List.mem_of_getElem? e
  simp only [PyData.strOk, List.all_toArray, List.all_cons, List.all_nil, Bool.and_true] at *
  rw [Array.all_eq_true'] at ok
  exact ok _ (Array.mem_toList_iff.mp hm)
theorem strSub {x : Str} {n c : Nat} {t u : Tok} (hn : Nat.ble n 1000 = true) (e : x.cps.toList[n]? = some c) (ok : PyData.strOk x = true) (h : K (.str ⟨#[c]⟩)) :
    wpAny (model X.prog X.w) A (getItem (.str x t) (.int (Int.ofNat n) u)) (Res X hid K s) NoE s := by
  have hn' := Nat.le_of_ble_eq_true hn
  have hlt := (List.getElem?_eq_some_iff.mp e).1
  rw [Array.length_toList] at hlt
  refine getItem_str (c := c) ?_ ?_ ⟨_, h, .str _ _ (strOk_one ok e), .toks _ _⟩
  · rw [decide_eq_false (Int.not_lt.mpr (small63' n)), decide_eq_false (Int.not_le.mpr (small63 hn'))]; rfl
  · rw [seqIndex_of (show n < x.length from hlt)]
    show x.cps[n]? = some c
    rw [← Array.getElem?_toList]; exact e
set_option tactic.hygienic true in
theorem subW_sound {value slice : Expr} {a i : D} {σ : Sg} {va vi : Value} (hs : sliceOf slice = none) (h : subW a i σ K) (ha : Rep X (hideAll s.heap hid) va a) (hi : Rep X (hideAll s.heap hid) vi i)
    (hw : WellAt X hid s.heap σ) : wpAny (model X.prog X.w) A (subscriptTail value slice va vi) (Res X hid K s) NoE s := by
  cases a <;> first | exact h.elim | skip
  · rename_i x
    cases intW_inv h with | mk h =>
    cases natW_inv h with | mk h =>
    obtain ⟨hn, h⟩ := onlyT_inv h
    obtain ⟨c, e, h⟩ := someW_inv h
    cases hi
    cases ha with | str t' ok =>
    exact tailItem (typeIs_str s x t') PySem.F.slot_str_getitem.lookup (strSub hn e ok h) hs
  · cases intW_inv h with | mk h =>
    cases idx_inv h with | mk h' =>
    obtain ⟨d, e, hk⟩ := h'
    cases hi
    cases ha with | tup z t1 t2 =>
    obtain ⟨v, hv, r⟩ := RepL.get t2 e
    have ht := t1.keeps (stays_out hid)
    have hlt := lt_size hv
    exact tailItem ht.typeIs slot_tuple_getitem.lookup (getItem_tuple ht (small63' _) (small63 (by (first | lia | omega))) (seqIndex_of hlt) (by rw [← Array.getElem?_toList]; exact hv) ⟨_, hk, r, .refl _⟩) hs
  · cases intW_inv h with | mk h =>
    cases idx_inv h with | mk h' =>
    obtain ⟨d, e, hk⟩ := h'
    cases hi
    cases ha with | lst z t1 t2 =>
    obtain ⟨v, hv, r⟩ := RepL.get t2 e
    have ht := isList_keeps t1 (stays_out hid)
    have hlt := lt_size hv
    exact tailItem ht.typeIs slot_list_getitem.lookup (wpAny_getItem_list ht (Int.natCast_nonneg _) (small63 (by (first | lia | omega))) (by rw [← Array.getElem?_toList]; exact hv) ⟨_, hk, r, .refl _⟩) hs
  · cases strW_inv h with | mk h =>
    obtain ⟨d, e, h⟩ := someW_inv h
    cases hi with | str t _ =>
    cases ha with | dct h1 h2 h3 h4 h5 =>
    have hm := mapOf_keeps h2 (stays_out hid)
    exact tailItem hm.typeIs slot_dict_getitem.lookup (wpAny_getItem_of (strKind_is X.prog X.w _ t) hm (h3 _ d e) ⟨_, h, RpS.at h5 e, .toks _ _⟩) hs
  · cases intW_inv h with | mk h =>
    cases natW_inv h with | @mk n h =>
    cases hi
    cases ha
    cases hw with | mk t1 t2 hl hr =>
    cases n with
    | zero => exact tailItem hl.typeIs slot_list_getitem.lookup (wpAny_getItem_list hl (by decide) (by decide) rfl ⟨_, h, hr, .refl _⟩) hs
    | succ n => cases n with
      | zero => exact tailItem hl.typeIs slot_list_getitem.lookup (wpAny_getItem_list hl (by decide) (by decide) rfl ⟨_, h, .int _ _, .refl _⟩) hs
      | succ n => cases n with
        | zero => exact tailItem hl.typeIs slot_list_getitem.lookup (wpAny_getItem_list hl (by decide) (by decide) rfl ⟨_, h, .int _ _, .refl _⟩) hs
        | succ n => exact False.elim h

theorem drop_strOk {x : Str} {n : Nat} (ok : PyData.strOk x = true) : PyData.strOk ⟨(x.cps.toList.drop n).toArray⟩ = true := by
  unfold PyData.strOk at *
  rw [Array.all_eq_true'] at *
  intro c hc
  exact ok c (Array.mem_toList_iff.mp (List.mem_of_mem_drop (List.mem_toArray.mp hc)))
theorem slice_drop {x : Str} {n : Nat} (h1 : n ≤ x.cps.toList.length) : Txt.slice x (some (Int.ofNat n)) none = ⟨(x.cps.toList.drop n).toArray⟩ := by
  refine Eq.trans (StrLaws.sliceText_from (x := x) (i := Int.ofNat n) ⟨Int.natCast_nonneg n, Int.ofNat_le.mpr h1⟩) ?_
  have e1 : ((x.cps.toList.length : Int) - Int.ofNat n).toNat = (x.cps.toList.drop n).length := by
    show ((x.cps.toList.length : Int) - (n : Int)).toNat = _
    rw [List.length_drop]; (first | lia | omega)
  have e2 : (Int.ofNat n).toNat = n := rfl
  rw [e1, e2, List.take_length]
theorem cutW_sound {value : Expr} {l u : Option Expr} {pos : Pos} {a i : D} {va vi : Value} (h : cutW a i K) (ha : Rep X (hideAll s.heap hid) va a) (hi : Rep X (hideAll s.heap hid) vi i) :
    wpAny (model X.prog X.w) A (newFields "slice" [vi, .none, .none]) (fun sv s₁ => wpAny (model X.prog X.w) A (subscriptTail value (.Slice l u none pos) va sv) (Res X hid K s) NoE s₁) NoE s := by
  cases strW_inv h with | @mk x h =>
  cases intW_inv h with | mk h =>
  cases natW_inv h with | @mk n h =>
  obtain ⟨h1, h⟩ := onlyT_inv h
  obtain ⟨h2, h⟩ := onlyT_inv h
  have h2' := Nat.le_of_ble_eq_true h2
  cases hi with | int t =>
  cases ha with | str t' ok =>
  refine wpAny_newObj_type ?_
  refine tail_any (ops := [.ref s.heap.objs.size, .str x t']) (typeIs_str _ x t') PySem.F.slot_str_getitem.lookup ?_ rfl
  have q := SBH.sliceItem_sn (prog := X.prog) (w := X.w) (A := A) (E := NoE) (s := s) (x := x) (t := t') (i := Int.ofNat n) (ui := t) (P := fun h => s.heap.StaysIn h) (Q := Res X hid K s)
    (fun h ob p b o e => Heap.get?_push_of_some _ (p b o e)) (fun _ _ e => e) (fun h' t'' k p => ⟨_, h, by rw [slice_drop (Nat.le_of_ble_eq_true h1)]; exact .str _ _ (drop_strOk ok), .heap k p⟩) (by rw [sizeLine_eq]; exact length_le (Nat.le_trans h2' (by decide)))
  obtain ⟨T, id, _, _, hg⟩ := q
  exact hg

theorem sint_spec {x : Int} {y : Str} (h : sint x = some y) : (x = 8 ∨ x = 16 ∨ x = 32) ∧ y = Str.ofString (toString x) ∧ PyData.strOk y = true := by
  unfold sint at h
  split at h
  · cases h; exact ⟨.inl rfl, by decide +kernel, strOk_of (by decide)⟩
  · cases h; exact ⟨.inr (.inl rfl), by decide +kernel, strOk_of (by decide)⟩
  · cases h; exact ⟨.inr (.inr rfl), by decide +kernel, strOk_of (by decide)⟩
  · cases h
theorem biW_sound {b : Bi} {ds : List D} {vs : List Value} (h : biW b ds K) (hd : RepL X (hideAll s.heap hid) vs ds) (live : ∀ a ∈ hid, (s.heap.get? a).isSome = true) :
    wpAny (model X.prog X.w) A (call b.val vs) (Res X hid K s) NoE s := by
  cases one1_inv h with | @mk d h =>
  cases hd with | cons h1 h2 =>
  cases h2
  cases b
  · cases lstW_inv h with | mk h =>
    cases h1 with | lst z t1 t2 =>
    have hl := RepL.length t2
    rw [Array.length_toList] at hl
    exact len_list (isList_keeps t1 (stays_out hid)) (by (first | lia | omega)) ⟨_, by rw [hl]; exact h, .int _ _, .toks _ _⟩
  · cases intW_inv h with | mk h =>
    cases h1
    exact call_abs_int fun u tk => ⟨_, h, .int _ _, .toks _ _⟩
  · cases d <;> first | exact h.elim | skip
    · cases h1; exact call_int_bool ⟨_, h, .int _ _, .toks _ _⟩
    · cases h1; exact call_int_int ⟨_, h, .int _ _, .refl _⟩
  · cases intW_inv h with | mk h =>
    obtain ⟨y, e, h⟩ := someW_inv h
    cases h1
    obtain ⟨hx, hy, ok⟩ := sint_spec e
    refine PySem.P.str_of_int (by rcases hx with rfl | rfl | rfl <;> decide) ⟨_, h, ?_, .toks _ _⟩
    rw [hy]; exact .str _ _ (hy ▸ ok)
  · cases lstW_inv h with | mk h =>
    cases h1 with | lst z t1 t2 =>
    obtain ⟨o, ho, hc, n, hd⟩ := isList_keeps t1 (stays_out hid)
    exact call_list_seq _ (.inl rfl) ho hc hd (fun h' c' st hget => ⟨_, h, .lst z ⟨_, hideAll_get _ hget (fresh_hid live), rfl, _, rfl⟩ (RepL.keeps t2 (stays_hid hid st)), .heap' st⟩) (by rw [sizeLine_eq]; (first | lia | omega))
  · exact h.elim
  · exact h.elim
end

theorem sIndex_is : sIndex = Str.ofString "index" := by decide +kernel
theorem sBitLength_is : sBitLength = Str.ofString "bit_length" := by decide +kernel
noncomputable def eS (x : Str) : Value → Bool
  | .str y _ => seqb y x
  | _ => false
theorem seqb_eq {x y : Str} : seqb y x = (y.cps.toList == x.cps.toList) := by
  cases h : seqb y x with
  | true => rw [seqb_iff.mp h]; simp
  | false =>
    symm
    rw [beq_eq_false_iff_ne]
    intro e
    have : y = x := by cases y; cases x; simpa [Array.toList_inj] using e
    rw [this, seqb_self] at h; cases h
section
variable {X : Wd} {hid : List Addr} {A : Around} {s : Shared}
theorem allS_cons {d : D} {ds : List D} (h : allS (d :: ds) = true) : ∃ z, d = .str z ∧ allS ds = true := by
  cases d <;> first | exact ⟨_, rfl, h⟩ | exact nomatch h
theorem eS_gives {h : Heap} {x : Str} {t : Tok} : ∀ {ds : List D} {vs : List Value}, RepL X h vs ds → allS ds = true → ∀ y ∈ vs, MeetsSeq.EqGives y (.str x t) (eS x y)
  | [], _, r, _, y, hy => by cases r; exact nomatch hy
  | d :: ds, _, r, hs, y, hy => by
    cases r with | cons a b =>
    obtain ⟨z, rfl, hs⟩ := allS_cons hs
    rcases List.mem_cons.mp hy with rfl | hy
    · cases a
      show MeetsSeq.EqGives _ _ (seqb z x)
      rw [seqb_eq]; exact PySem.SeqRoads2.EqGives.str _ _ _ _
    · exact eS_gives b hs y hy
inductive IdxA (x : Str) (vs : List Value) (j : Nat) : Prop
  | mk (hj : j < vs.length) : eS x vs[j] = true → (∀ i (hi : i < vs.length), i < j → eS x vs[i] = false) → IdxA x vs j
theorem idxS_spec {h : Heap} {x : Str} : ∀ {ds : List D} {vs : List Value} {j : Nat}, RepL X h vs ds → allS ds = true → idxS x ds = some j → IdxA x vs j
  | [], _, _, _, _, hs => nomatch hs
  | d :: ds, _, j, r, hal, hs => by
    cases r with | cons a b =>
    obtain ⟨z, rfl, hal⟩ := allS_cons hal
    cases a
    have hs : (match seqb z x with | true => some 0 | false => (idxS x ds).map (· + 1)) = some j := hs
    cases q : seqb z x with
    | true =>
      rw [q] at hs
      cases hs
      exact ⟨Nat.zero_lt_succ _, q, fun i _ hlt => absurd hlt (Nat.not_lt_zero _)⟩
    | false =>
      rw [q] at hs
      cases e : idxS x ds with
      | none => rw [e] at hs; cases hs
      | some j' =>
        rw [e] at hs
        cases hs
        cases idxS_spec b hal e with | mk hj h1 h2 =>
        refine ⟨Nat.succ_lt_succ hj, h1, fun i hi hlt => ?_⟩
        cases i with
        | zero => exact q
        | succ i => exact h2 i (Nat.lt_of_succ_lt_succ hi) (Nat.lt_of_succ_lt_succ hlt)
theorem index_sound {a : Addr} {vs : Array Value} {n : Nat} {ds : List D} {d : D} {K : D → Prop} {vd : Value} (ho : s.heap.get? a = some { cls := .type "list", dict := none, data := .seq vs n, slots := #[] }) (hsz : vs.size ≤ 1000)
    (hr : RepL X (hideAll s.heap hid) vs.toList ds) (hd : Rep X (hideAll s.heap hid) vd d) (h : indexW ds d K) : wpAny (model X.prog X.w) A (call (.builtin "list.index") [.ref a, vd]) (Res X hid K s) NoE s := by
  cases strW_inv h with | @mk x h =>
  obtain ⟨hs, h⟩ := onlyT_inv h
  obtain ⟨j, e, h⟩ := someW_inv h
  cases hd with | str t _ =>
  cases idxS_spec hr hs e with | mk hj h1 h2 =>
  have hlen : vs.toList.length = vs.size := Array.length_toList
  refine call_meets PySem.F.slot_list_index ⟨_, ho, rfl⟩ PySem.F.entry_list_index (PySem.F.args_list_index_2 _ _)
    (MeetsSeq.list_index a vs n (.str x t) (eS x) (fun y hy => eS_gives hr hs y (Array.mem_toList_iff.mpr hy)) j (hlen ▸ hj) (by rw [hlen] at hj; (first | lia | omega)) (by simpa using h1) (fun i hi hlt => (h2 i (hlen.symm ▸ hi) hlt : eS x vs.toList[i] = false))) ⟨ho, ?_⟩
  exact ⟨_, h, .int _ _, .toks _ _⟩
end
end Mine.Internal

end
section
open PySem PySem.W PyProof.Rows PySem.Calls
set_option Elab.async false
set_option tactic.hygienic false
set_option genSizeOf false
set_option genInjectivity false
set_option linter.all false
set_option backward.match.sparseCases false
set_option bootstrap.genMatcherCode false
namespace Mine.Internal

structure AOk (A : Around) (k : Nat) : Prop where
  handled : A.handled = none
  depth : A.depth + k < 900
  units : A.units + 8 * k + 200 < cLine
theorem AOk.mono {A : Around} {k j : Nat} (h : AOk A k) (hj : j ≤ k) : AOk A j := ⟨h.handled, by have := h.depth; (first | lia | omega), by have := h.units; (first | lia | omega)⟩
theorem AOk.eq {A : Around} {k : Nat} (h : AOk A k) : A.units + 64 < cLine := by have := h.units; (first | lia | omega)

structure StepC (aw : Addr) (s s' : Shared) : Prop where
  keep : Keep [aw] s.heap s'.heap
  same : s' = { s with heap := s'.heap, toks := s'.toks }
structure Step (aw L : Addr) (s s' : Shared) : Prop where
  keep : Keep [aw, L] s.heap s'.heap
  same : s' = { s with heap := s'.heap, toks := s'.toks }
theorem Step.refl {aw L : Addr} (s : Shared) : Step aw L s s := ⟨.refl _, rfl⟩
theorem Step.trans {aw L : Addr} {s s' s'' : Shared} (a : Step aw L s s') (b : Step aw L s' s'') : Step aw L s s'' := ⟨a.keep.trans b.keep, by rw [b.same, a.same]⟩
theorem Grow.step {aw L : Addr} {s s' : Shared} (a : Grow s s') : Step aw L s s' := ⟨.ofStays a.stays, a.same⟩
theorem StepC.step {aw L : Addr} {s s' : Shared} (a : StepC aw s s') : Step aw L s s' :=
  ⟨a.keep.mono fun _ q => by rw [List.mem_singleton.mp q]; exact .head _, a.same⟩

noncomputable def GlobAt (h : Heap) (x : Str) (v : Value) : Prop :=
  (∃ mg, h.Ns mainGlobals mg ∧ mg x = some v) ∨ ∃ mg mb, h.Ns mainGlobals mg ∧ mg x = none ∧ h.Ns builtinsNs mb ∧ mb x = some v
inductive GlA (X : Wd) (h : Heap) (x : Str) (d : D) : Prop
  | mk (v : Value) (g : GlobAt h x v) (r : Rep X h v d)
inductive PC (X : Wd) (hid : List Addr) (Q : D → Sg → Prop) (s : Shared) (v : Value) (s' : Shared) : Prop
  | mk (d : D) (σ : Sg) (q : Q d σ) (r : Rep X (hideAll s'.heap hid) v d) (wl : WellAt X hid s'.heap σ) (sp : StepC X.aw s s')
noncomputable def Live (hid : List Addr) (h : Heap) : Prop := ∀ a ∈ hid, (h.get? a).isSome = true

structure Cfg extends Wd where
  g : Gx
  Base : Heap → Prop
  keeps : ∀ {h h' : Heap}, Base h → h.StaysIn h' → Base h'
  gl : ∀ {h : Heap}, Base h → ∀ {x : Str} {d : D}, gfind x g.G = some d → GlA toWd h x d
  l2 : 2 ≤ g.lvl
  big : ∀ {h : Heap}, Base h → ∃ a o, h.get? a = some o ∧ Nat.ble sysModules a = true
  fs : Addr
  getm : ∀ {A : Around} {s : Shared} {hid : List Addr} {l : List (Int × D)} {v : Value} {name : Str} {pl : Sem Bool} {Q : Value × List Value → Shared → Prop}, Base (hideAll s.heap hid) → Rep toWd (hideAll s.heap hid) v (.fac l) →
    seqb name sShape = true → Q (.ref fs, [v]) s → wpAny (model prog w) A (getMethod v name pl) Q NoE s
  fsfn : ∀ {h : Heap}, Base h → ∃ o fd, h.get? fs = some o ∧ o.data = .func fd
  shp : ∀ {A : Around} {s : Shared} {hid : List Addr} {l : List (Int × D)} {d : D} {K : D → Prop} {vx vd : Value}, AOk A 2 → Base (hideAll s.heap hid) → Live hid s.heap →
    Rep toWd (hideAll s.heap hid) vx (.fac l) → Rep toWd (hideAll s.heap hid) vd d → shapeAt l d K → wpAny (model prog w) A (call (.ref fs) [vx, vd]) (Res toWd hid K s) NoE s
  calls : ∀ {a : Addr} {ds : List D} {σ : Sg} {Q : D → Sg → Prop}, g.ct g.lvl a ds σ Q → ∀ {A : Around} {s : Shared} {hid : List Addr} {vs : List Value}, AOk A g.lvl → Base (hideAll s.heap hid) → aw ∈ hid →
    Live hid s.heap → RepL toWd (hideAll s.heap hid) vs ds → WellAt toWd hid s.heap σ → wpAny (model prog w) A (call (.ref a) vs) (PC toWd hid Q s) NoE s

structure Fm where
  cx : Cx
  env : Env
  L : Addr
structure EnvOk (F : Fm) : Prop where
  kind : F.env.scope.kind = .function
  loc : F.env.locals = F.L
  glob : F.env.globals = mainGlobals
  bui : F.env.builtins = builtinsNs
  names : ∀ x k, lk x F.cx.kinds = some k → k ≠ .free → F.env.kindOf x = some k
  dbg : ∀ x k, lk x F.cx.kinds = some k → (x == ("__debug__" : Str)) = false

inductive ValA (X : Wd) (h : Heap) (o : Option Value) (d : D) : Prop
  | mk (v : Value) (e : o = some v) (r : Rep X h v d)
inductive LocA (X : Wd) (hid : List Addr) (L : Addr) (ρ : En) (h : Heap) : Prop
  | mk (m : Str → Option Value) (hn : h.Ns L m) (hm : ∀ x d, lk x ρ = some d → ValA X (hideAll h hid) (m x) d)
inductive KapA (X : Wd) (env : Env) (h : Heap) (x : Str) (d : D) : Prop
  | mk (c : Addr) (o : Obj) (v : Value) (a1 : env.cells.lookup x = some c) (a2 : env.kindOf x = some .cell ∨ env.kindOf x = some .free) (a3 : (x == ("__debug__" : Str)) = false) (a4 : (x == ("__classdict__" : Str)) = false)
    (a5 : h.get? c = some o) (a6 : o.data = .cell (some v)) (a7 : Rep X h v d)
section
variable (C : Cfg) (F : Fm) (hid : List Addr)
structure St (ρ : En) (σ : Sg) (h : Heap) : Prop where
  base : C.Base (hideAll h hid)
  live : Live hid h
  loc : LocA C.toWd hid F.L ρ h
  kloc : ∀ x d, lk x ρ = some d → isLocalK (lk x F.cx.kinds) = true
  kap : ∀ x d, lk x F.cx.kap = some d → KapA C.toWd F.env (hideAll h hid) x d
  well : WellAt C.toWd hid h σ

inductive PE (ρ : En) (Q : D → Sg → Prop) (s : Shared) (v : Value) (s' : Shared) : Prop
  | mk (d : D) (σ : Sg) (q : Q d σ) (r : Rep C.toWd (hideAll s'.heap hid) v d) (st : St C F hid ρ σ s'.heap) (sp : Step C.aw F.L s s')
inductive PEs (ρ : En) (Q : List D → Sg → Prop) (s : Shared) (vs : List Value) (s' : Shared) : Prop
  | mk (ds : List D) (σ : Sg) (q : Q ds σ) (r : RepL C.toWd (hideAll s'.heap hid) vs ds) (st : St C F hid ρ σ s'.heap) (sp : Step C.aw F.L s s')
inductive PB (ρ : En) (K : Bool → Sg → Prop) (s : Shared) (b : Bool) (s' : Shared) : Prop
  | mk (σ : Sg) (k : K b σ) (st : St C F hid ρ σ s'.heap) (sp : Step C.aw F.L s s')
inductive PA (σ : Sg) (K : En → Prop) (s s' : Shared) : Prop
  | mk (ρ : En) (k : K ρ) (st : St C F hid ρ σ s'.heap) (sp : Step C.aw F.L s s')
end

theorem isLocalK_spec {k : Option NameKind} (h : isLocalK k = true) : k = some .local := by
  cases k with
  | none => cases h
  | some k => cases k <;> first | rfl | exact nomatch h

section
variable {C : Cfg} {F : Fm} {hid hid' : List Addr} {ρ ρ' : En} {σ σ' : Sg} {s s' : Shared} {h h' : Heap} {A : Around}

theorem Step.fz (x : Step C.aw F.L s s') (ha : C.aw ∈ hid) (hL : F.L ∈ hid) : (hideAll s.heap hid).StaysIn (hideAll s'.heap hid) :=
  x.keep.stays fun y hy => by
    rcases List.mem_cons.mp hy with rfl | hy
    · exact ha
    · rw [List.mem_singleton.mp hy]; exact hL
theorem ValA.keeps {X : Wd} {o : Option Value} {d : D} (k : h.StaysIn h') : ValA X h o d → ValA X h' o d
  | .mk v e r => .mk v e (r.keeps k)
theorem KapA.keeps {X : Wd} {env : Env} {x : Str} {d : D} (k : h.StaysIn h') : KapA X env h x d → KapA X env h' x d
  | .mk c o v a1 a2 a3 a4 a5 a6 a7 => .mk c o v a1 a2 a3 a4 (k c o a5) a6 (a7.keeps k)
theorem WellAt.move {X : Wd} (x : WellAt X hid h σ) (fz : (hideAll h hid).StaysIn (hideAll h' hid')) (ka : ∀ o, h.get? X.aw = some o → h'.get? X.aw = some o) : WellAt X hid' h' σ :=
  match x with | .mk t1 t2 ⟨o, ho, q⟩ b => .mk t1 t2 ⟨o, ka o ho, q⟩ (b.keeps fz)
theorem St.moveW (x : St C F hid ρ σ h) (fz : (hideAll h hid).StaysIn (hideAll h' hid')) (live : Live hid' h') (kL : ∀ o, h.get? F.L = some o → h'.get? F.L = some o) (wl : WellAt C.toWd hid' h' σ') : St C F hid' ρ σ' h' where
  base := C.keeps x.base fz
  live := live
  loc := match x.loc with | .mk m hn hm => .mk m (hn.at' kL) fun y d e => (hm y d e).keeps fz
  kloc := x.kloc
  kap := fun y d e => (x.kap y d e).keeps fz
  well := wl
theorem St.move (x : St C F hid ρ σ h) (fz : (hideAll h hid).StaysIn (hideAll h' hid')) (live : Live hid' h') (kL : ∀ o, h.get? F.L = some o → h'.get? F.L = some o) (ka : ∀ o, h.get? C.aw = some o → h'.get? C.aw = some o) : St C F hid' ρ σ h' :=
  x.moveW fz live kL (x.well.move fz ka)
theorem live_stays (l : Live hid h) (st : h.StaysIn h') : Live hid h' := fun a ha => by
  have := l a ha
  cases z : h.get? a with
  | none => rw [z] at this; cases this
  | some o => rw [st a o z]; rfl
theorem St.grow (x : St C F hid ρ σ h) (st : h.StaysIn h') : St C F hid ρ σ h' :=
  x.move (stays_hid hid st) (live_stays x.live st) (fun o => st _ o) fun o => st _ o
theorem St.sub (x : St C F hid' ρ σ h) (hs : ∀ a ∈ hid, a ∈ hid') : St C F hid ρ σ h :=
  x.move (hideAll_sub h hs) (fun a ha => x.live a (hs a ha)) (fun _ e => e) (fun _ e => e)
theorem St.less (x : St C F hid ρ σ h) (hs : ∀ y d, lk y ρ' = some d → lk y ρ = some d) : St C F hid ρ' σ h where
  base := x.base
  live := x.live
  loc := match x.loc with | .mk m hn hm => .mk m hn fun y d e => hm y d (hs y d e)
  kloc := fun y d e => x.kloc y d (hs y d e)
  kap := x.kap
  well := x.well
theorem St.forget (x : St C F hid ρ σ h) : St C F hid [] σ h := x.less fun _ _ e => nomatch e
theorem live_keep {wr : List Addr} (k : ∀ b o, b ∉ wr → h.get? b = some o → h'.get? b = some o) {a : Addr} (ha : a ∉ wr) (l : (h.get? a).isSome = true) : (h'.get? a).isSome = true := by
  cases z : h.get? a with
  | none => rw [z] at l; cases l
  | some o => rw [k a o ha z]; rfl
theorem live_none {a : Addr} (n : h.get? a = none) (l : (h.get? a).isSome = true) : False := by rw [n] at l; cases l
theorem not_hid {a : Addr} {o : Obj} (e : (hideAll h hid).get? a = some o) : a ∉ hid := fun q => by rw [hideAll_none _ q] at e; cases e

theorem pe_res {K : D → Prop} {v : Value} {Q : D → Sg → Prop} (x : St C F hid ρ σ s.heap) (r : Res C.toWd hid K s v s') (hQ : ∀ d, K d → Q d σ) : PE C F hid ρ Q s v s' :=
  match r with | .mk d k r gr => .mk d σ (hQ d k) r (x.grow gr.stays) gr.step
theorem pe_b {K : Bool → Prop} {v : Value} {Q : D → Sg → Prop} (x : St C F hid ρ σ s.heap) (r : ResB K s v s') (hQ : ∀ b, K b → Q (.bool b) σ) : PE C F hid ρ Q s v s' := by
  cases r with | mk b e k gr =>
  subst e
  exact ⟨.bool b, σ, hQ b k, .bool b, x.grow gr.stays, gr.step⟩

inductive NmA (g : Gx) (cx : Cx) (ρ : En) (x : Str) (K : D → Prop) : Prop
  | loc {d : D} (e : lk x ρ = some d) (k : K d)
  | kap {d : D} (e : lk x cx.kap = some d) (k : K d)
  | glo {d : D} (n : lk x cx.kinds = some .globalImplicit) (e : gfind x g.G = some d) (k : K d)
theorem nameW_inv {g : Gx} {cx : Cx} {x : Str} {K : D → Prop} (h : nameW g cx ρ x K) : NmA g cx ρ x K := by
  unfold nameW at h
  cases h1 : lk x ρ with
  | some d => rw [h1] at h; exact .loc h1 h
  | none =>
    rw [h1] at h
    dsimp only at h
    cases h2 : lk x cx.kap with
    | some d => rw [h2] at h; exact .kap h2 h
    | none =>
      rw [h2] at h
      dsimp only at h
      cases h3 : lk x cx.kinds with
      | none => rw [h3] at h; exact h.elim
      | some k =>
        rw [h3] at h
        cases k <;> first | exact h.elim | skip
        dsimp only at h
        cases h4 : gfind x g.G with
        | none => rw [h4] at h; exact h.elim
        | some d => rw [h4] at h; exact .glo h3 h4 h
theorem name_sound {x : Str} {pos : Pos} {K : D → Prop} {Q : D → Sg → Prop} (e : EnvOk F) (st : St C F hid ρ σ s.heap) (h : nameW C.g F.cx ρ x K) (hQ : ∀ d, K d → Q d σ) :
    wpAny (model C.prog C.w) A (eval (.Name x pos) F.env) (PE C F hid ρ Q s) NoE s := by
  cases nameW_inv h with
  | loc hd h =>
    cases st.loc with | mk m hn hm =>
    cases hm x _ hd with | mk v hv r =>
    have hl := isLocalK_spec (st.kloc x _ hd)
    exact wpAny_Name (wpAny_loadName_local e.kind (e.names _ _ hl (by decide)) (e.loc ▸ hn) hv ⟨_, σ, hQ _ h, r, st, .refl s⟩) (e.dbg _ _ hl)
  | kap hd h =>
    cases st.kap x _ hd with | mk c o v a1 a2 a3 a4 a5 a6 a7 =>
    have hc : s.heap.IsCell c (some v) := ⟨o, of_hideAll _ a5, a6⟩
    have fin : PE C F hid ρ Q s v s := ⟨_, σ, hQ _ h, a7, st, .refl s⟩
    rcases a2 with a2 | a2
    · exact wpAny_Name (wpAny_loadName_cell e.kind a2 a1 hc fin) a3
    · exact wpAny_Name (wpAny_loadName_free e.kind a2 a1 hc fin a4) a3
  | glo hk hd h =>
    cases C.gl st.base hd with | mk v gv r =>
    have fin : PE C F hid ρ Q s v s := ⟨_, σ, hQ _ h, r, st, .refl s⟩
    refine Name_function_global e.kind (e.names _ _ hk (by decide)) ?_ (e.dbg _ _ hk)
    rcases gv with ⟨mg, hg, hv⟩ | ⟨mg, mb, hg, hv, hb, hv'⟩
    · exact loadGlobal_global (e.glob ▸ hg.keeps (stays_out hid)) hv fin
    · exact loadGlobal_builtin (e.glob ▸ hg.keeps (stays_out hid)) hv (e.bui ▸ hb.keeps (stays_out hid)) hv' fin

theorem seq_size {vs : List Value} {n : Nat} (hl : vs.length = n) (hsz : n ≤ 1000) : vs.toArray.size ≤ 1000 := by simp; (first | lia | omega)
theorem seq_line {vs : List Value} {n : Nat} (hl : vs.length = n) (hsz : n ≤ 1000) : vs.toArray.size ≤ sizeLine := by rw [sizeLine_eq]; exact Nat.le_trans (seq_size hl hsz) (by decide)
theorem newTuple_sound {vs : List Value} {ds : List D} {Q : D → Sg → Prop} (st : St C F hid ρ σ s.heap) (r : RepL C.toWd (hideAll s.heap hid) vs ds) (hsz : ds.length ≤ 1000) (h : Q (.tup ds) σ) :
    wpAny (model C.prog C.w) A (newTuple vs) (PE C F hid ρ Q s) NoE s :=
  wpAny_newObj_type ⟨_, σ, h, .tup (vs := vs.toArray) (seq_size r.length hsz) ⟨_, hideAll_get _ (Heap.get?_push_size _ rfl) (fresh_hid st.live), rfl, _, rfl⟩ (r.keeps (stays_hid hid (stays_push _))), st.grow (stays_push _), (Grow.heap' (stays_push _)).step⟩ (seq_line r.length hsz)
theorem newList_sound {vs : List Value} {ds : List D} {Q : D → Sg → Prop} (st : St C F hid ρ σ s.heap) (r : RepL C.toWd (hideAll s.heap hid) vs ds) (hsz : ds.length ≤ 1000) (h : Q (.lst ds) σ) :
    wpAny (model C.prog C.w) A (newList vs) (PE C F hid ρ Q s) NoE s :=
  wpAny_newObj_type ⟨_, σ, h, .lst (vs := vs.toArray) (seq_size r.length hsz) ⟨_, hideAll_get _ (Heap.get?_push_size _ rfl) (fresh_hid st.live), rfl, _, rfl⟩ (r.keeps (stays_hid hid (stays_push _))), st.grow (stays_push _), (Grow.heap' (stays_push _)).step⟩ (seq_line r.length hsz)

theorem ne_of_lk {α : Type} {x y : Str} {d : α} {r : List (Str × α)} {o : Option α} (h : lk x ((y, d) :: r) = o) : (x = y ∧ some d = o) ∨ (x ≠ y ∧ lk x r = o) := by
  by_cases q : x = y
  · subst q; rw [lk_cons_self] at h; exact .inl ⟨rfl, h⟩
  · rw [lk_cons_ne q] at h; exact .inr ⟨q, h⟩
theorem live_but {a : Addr} (hs : Heap.SameBut a h h') (ha : (h'.get? a).isSome = true) (l : Live hid h) : Live hid h' := fun b hb => by
  by_cases q : b = a
  · subst q; exact ha
  · rw [hs.2 b q]; exact l b hb
theorem ns_live {L : Addr} {m : Str → Option Value} (x : h.Ns L m) : (h.get? L).isSome = true := by
  obtain ⟨o, _, _, ho, _⟩ := x
  rw [ho]; rfl
theorem lst_live {L : Addr} {m : Array Value} (x : h.IsList L m) : (h.get? L).isSome = true := by
  obtain ⟨o, ho, _⟩ := x
  rw [ho]; rfl
theorem store_sound {x : Str} {d : D} {v : Value} {K : En → Prop} (e : EnvOk F) (ha : C.aw ∈ hid) (hL : F.L ∈ hid) (hne : C.aw ≠ F.L) (st : St C F hid ρ σ s.heap) (r : Rep C.toWd (hideAll s.heap hid) v d) (h : asgW F.cx x d ρ K) :
    wpAny (model C.prog C.w) A (storeName F.env x v) (fun _ s' => PA C F hid σ K s s') NoE s := by
  obtain ⟨hk, h⟩ := onlyT_inv h
  cases st.loc with | mk m hn hm =>
  refine wpAny_storeName_local (e.names _ _ (isLocalK_spec hk) (by decide)) (e.loc ▸ hn) (fun h' hn' hs' => ?_) (by rw [e.kind]; rfl)
  rw [e.loc] at hn' hs'
  have sp : Step C.aw F.L s { s with heap := h', toks := s.toks + 1 } := ⟨Keep.sameBut hs' (.tail _ (.head _)), rfl⟩
  have fz := sp.fz ha hL
  refine ⟨_, h, ⟨C.keeps st.base fz, live_but hs' (ns_live hn') st.live, ⟨_, hn', fun y d' e' => ?_⟩, fun y d' e' => ?_, fun y d' e' => (st.kap y d' e').keeps fz, st.well.move fz fun o ho => (hs'.2 _ hne).trans ho⟩, sp⟩
  · rcases ne_of_lk e' with ⟨rfl, e2⟩ | ⟨q, e2⟩
    · cases e2
      exact ⟨v, if_pos rfl, r.keeps fz⟩
    · cases (hm y d' e2).keeps fz with | mk v' e1 e3 => exact .mk v' ((if_neg q).trans e1) e3
  · rcases ne_of_lk e' with ⟨rfl, e2⟩ | ⟨q, e2⟩
    · exact hk
    · exact st.kloc y d' e2
end
end Mine.Internal

end
section
open PySem PySem.W PyProof.Rows PySem.Calls
set_option Elab.async false
set_option tactic.hygienic false
set_option genSizeOf false
set_option genInjectivity false
set_option linter.all false
set_option backward.match.sparseCases false
set_option bootstrap.genMatcherCode false
namespace Mine.Internal
noncomputable def KeepB (wr : List Addr) (h h' : Heap) : Prop := ∀ b o, b ∉ wr → h.get? b = some o → h'.get? b = some o
inductive ItR (X : Wd) (wr : List Addr) (ds : List D) (S : Nat → Heap → Prop) (hid' : List Addr) (i : Nat) (s : Shared) : Option Value → Shared → Prop
  | item {d : D} {v : Value} {h' : Heap} {tk : Nat} : ds[i]? = some d → S (i + 1) h' → KeepB wr s.heap h' → Rep X (hideAll h' hid') v d → ItR X wr ds S hid' i s (some v) { s with heap := h', toks := tk }
  | done {h' : Heap} {tk : Nat} : i = ds.length → KeepB wr s.heap h' → ItR X wr ds S hid' i s none { s with heap := h', toks := tk }
noncomputable def Turn (X : Wd) (A : Around) (I : Addr) (target : Expr) (R : Option Value → Shared → Prop) (s : Shared) : Prop :=
  wpAny (model X.prog X.w) A (pyNext (.ref I)) (fun r s₁ => match r with
      | none => R none s₁
      | some v => wpAny (model X.prog X.w) A (letOwnedTupleGo target (.ref I) v) (fun _ s₂ => R (some v) s₂) NoE s₁) NoE s
structure It (X : Wd) (A : Around) (I : Addr) (fp wr hid : List Addr) (h₀ : Heap) (ds : List D) (S : Nat → Heap → Prop) (target : Expr) : Prop where
  sub : ∀ b ∈ wr, b ∈ fp
  frame : ∀ i h h', S i h → (∀ b ∈ fp, ∀ o, h.get? b = some o → h'.get? b = some o) → S i h'
  live : ∀ i h, S i h → Live wr h
  self : ∀ i (s : Shared) (Q : Value → Shared → Prop), S i s.heap → Q (.ref I) s → wpAny (model X.prog X.w) A (pyIter (.ref I)) Q NoE s
  step : ∀ i (s : Shared) (hid' : List Addr), S i s.heap → i ≤ ds.length → (∀ b ∈ wr, b ∈ hid') → (hideAll h₀ hid).StaysIn (hideAll s.heap hid') → Live hid' s.heap → Turn X A I target (ItR X wr ds S hid' i s) s

section
variable {X : Wd} {A : Around}
theorem keepWr {h h' : Heap} {wr hid' : List Addr} (hw : ∀ b ∈ wr, b ∈ hid') (k : KeepB wr h h') : (hideAll h hid').StaysIn (hideAll h' hid') :=
  Keep.stays (mu := wr) (fun b o n e => k b o n e) hw

theorem It.ofWalks {I : Addr} {fp wr hid : List Addr} {h₀ : Heap} {ds : List D} {S : Nat → Heap → Prop} {target : Expr} {P : Nat → Value → Prop} (W : Walks X.prog X.w A I fp wr ds.length P S)
    (live : ∀ i h, S i h → Live wr h)
    (go : ∀ i (s : Shared) v (Q : Unit → Shared → Prop), P i v → S (i + 1) s.heap → Q () s → wpAny (model X.prog X.w) A (letOwnedTupleGo target (.ref I) v) Q NoE s)
    (rep : ∀ i v, i < ds.length → P i v → ∃ d, ds[i]? = some d ∧ Rep X (hideAll h₀ hid) v d) : It X A I fp wr hid h₀ ds S target where
  sub := W.sub
  frame := W.frame
  live := live
  self := fun i s Q st hQ => W.self i s Q _ st hQ
  step := fun i s hid' st hi hw base hlive => by
    by_cases hlt : i < ds.length
    · refine W.item i s _ _ hlt st fun v h' tk hP st' k => ?_
      obtain ⟨d, hd, r⟩ := rep i v hlt hP
      exact go i _ v _ hP st' (.item hd st' k (r.keeps fun b o e => keepWr hw k b o (base b o e)))
    · have e : i = ds.length := Nat.le_antisymm hi (Nat.not_lt.mp hlt)
      subst e
      exact W.done s _ _ st fun h' tk k => .done rfl k

theorem rangeF_get : ∀ (n k i : Nat), i < n → (rangeF k n)[i]? = some (.int (Int.ofNat (k + i)))
  | 0, _, _, h => absurd h (Nat.not_lt_zero _)
  | n + 1, k, 0, _ => rfl
  | n + 1, k, i + 1, h => (rangeF_get n (k + 1) i (Nat.lt_of_succ_lt_succ h)).trans (by rw [Nat.add_assoc, Nat.add_comm 1])
theorem rangeF_length : ∀ (n k : Nat), (rangeF k n).length = n
  | 0, _ => rfl
  | n + 1, k => congrArg (· + 1) (rangeF_length n (k + 1))
theorem enumD_length : ∀ (l : List D) (k : Nat), (enumD k l).length = l.length
  | [], _ => rfl
  | _ :: l, k => congrArg (· + 1) (enumD_length l (k + 1))
theorem enumD_get : ∀ (l : List D) (k i : Nat) (d : D), l[i]? = some d → (enumD k l)[i]? = some (.tup [.int (Int.ofNat (k + i)), d])
  | [], _, _, _, h => nomatch h
  | x :: l, k, 0, d, h => by cases h; rfl
  | x :: l, k, i + 1, d, h => (enumD_get l (k + 1) i d h).trans (by rw [Nat.add_assoc, Nat.add_comm 1])
end

inductive ItAt (C : Cfg) (F : Fm) (hid : List Addr) (A : Around) (target : Expr) (ρ : En) (K : List D → Sg → Prop) (s : Shared) (it : Value) (s₂ : Shared) : Prop
  | mk (ds : List D) (σ : Sg) (I : Addr) (fp wr : List Addr) (S : Nat → Heap → Prop) (sB : Shared) (e : it = .ref I) (hK : K ds σ) (W : It C.toWd A I fp wr hid sB.heap ds S target) (hS : S 0 s₂.heap)
    (stB : St C F hid ρ σ sB.heap) (spB : Step C.aw F.L s sB) (gB : Grow sB s₂) (hwr : ∀ b ∈ wr, sB.heap.get? b = none) (hfp : Live fp s₂.heap) (hfh : ∀ b ∈ fp, b ∉ hid) (hdl : ds.length ≤ 1000)

theorem all1 {P : Addr → Prop} {a : Addr} (x : P a) : ∀ b ∈ [a], P b := fun b hb => by rw [List.mem_singleton.mp hb]; exact x
theorem all2 {P : Addr → Prop} {a c : Addr} (x : P a) (y : P c) : ∀ b ∈ [a, c], P b := fun b hb => by
  rcases List.mem_cons.mp hb with rfl | hb
  · exact x
  · exact all1 y b hb
theorem all3 {P : Addr → Prop} {a c d : Addr} (x : P a) (y : P c) (z : P d) : ∀ b ∈ [a, c, d], P b := fun b hb => by
  rcases List.mem_cons.mp hb with rfl | hb
  · exact x
  · exact all2 y z b hb
theorem some_live {h : Heap} {a : Addr} {o : Obj} (e : h.get? a = some o) : (h.get? a).isSome = true := by rw [e]; rfl

section
variable {C : Cfg} {F : Fm} {hid : List Addr} {A : Around} {target : Expr} {ρ : En} {σ : Sg} {K : List D → Sg → Prop} {s₀ s : Shared}

theorem it_new {l : List D} {a : Addr} {o oa : Obj} {S : Nat → Heap → Prop} (hoa : (hideAll s.heap hid).get? a = some oa) (st : St C F hid ρ σ s.heap) (sp : Step C.aw F.L s₀ s) (h : K l σ)
    (W : It C.toWd A s.heap.objs.size [s.heap.objs.size, a] [s.heap.objs.size] hid s.heap l S target) (hS : S 0 (s.heap.push o)) (hl : l.length ≤ 1000) (hf : o.isFreed = false) :
    ItAt C F hid A target ρ K s₀ (.ref s.heap.objs.size) { s with heap := s.heap.push o } :=
  ⟨l, σ, s.heap.objs.size, _, _, S, s, rfl, h, W, hS, st, sp, Grow.heap' (stays_push _), all1 (Heap.get?_none_of_le (Nat.le_refl _)),
    all2 (some_live (Heap.get?_push_size _ hf)) (some_live (Heap.get?_push_of_some _ (of_hideAll _ hoa))), all2 (fresh_hid st.live) (not_hid hoa), hl⟩
theorem items_it {d : D} {v : Value} (hA : A.handled = none) (r : Rep C.toWd (hideAll s.heap hid) v d) (st : St C F hid ρ σ s.heap) (sp : Step C.aw F.L s₀ s) (h : itemsW d fun ds => K ds σ) :
    wpAny (model C.prog C.w) A (pyIter v) (ItAt C F hid A target ρ K s₀) NoE s := by
  cases d <;> first | exact h.elim | skip
  · cases r with | @tup a vs z t1 t2 =>
    have ht := t1.keeps (stays_out hid)
    obtain ⟨oa, hoa, _⟩ := id t1
    have hl := RepL.length t2
    rw [Array.length_toList] at hl
    have W := Walks.tuple (prog := C.prog) (w := C.w) hA s.heap.objs.size a (Nat.ne_of_lt ht.lt) vs
    rw [hl] at W
    refine wpAny_pyIter_tuple ht (it_new hoa st sp h (It.ofWalks W (fun i h' S => all1 (by obtain ⟨⟨o, ho, _⟩, _⟩ := S; exact some_live ho)) (fun i s' v Q _ S hQ => letGo_tupleiter S.1 hQ) fun i v hi hP => ?_)
      ⟨⟨_, Heap.get?_push_size _ rfl, rfl, rfl⟩, ht.push _⟩ (by (first | lia | omega)) rfl)
    rw [← Array.getElem?_toList] at hP
    exact RepL.getV t2 hP
  · cases r with | @lst a vs z t1 t2 =>
    have ht := isList_keeps t1 (stays_out hid)
    obtain ⟨oa, hoa, _⟩ := id t1
    have hl := RepL.length t2
    rw [Array.length_toList] at hl
    have W := Walks.list (prog := C.prog) (w := C.w) hA s.heap.objs.size a (Nat.ne_of_lt (Heap.lt_size (of_hideAll _ hoa))) vs
    rw [hl] at W
    refine wpAny_pyIter_list ht (it_new hoa st sp h (It.ofWalks W (fun i h' S => all1 (by obtain ⟨⟨o, ho, _⟩, _⟩ := S; exact some_live ho)) (fun i s' v Q _ S hQ => letGo_listiter S.1 hQ) fun i v hi hP => ?_)
      ⟨⟨_, Heap.get?_push_size _ rfl, rfl, rfl⟩, isList_keeps ht (stays_push _)⟩ (by (first | lia | omega)) rfl)
    rw [← Array.getElem?_toList] at hP
    exact RepL.getV t2 hP

theorem range_it {k : Int} {t : Tok} (hA : A.handled = none) (st : St C F hid ρ σ s.heap) (sp : Step C.aw F.L s₀ s) (hk : 0 ≤ k ∧ k ≤ 1000) (h : K (rangeD k.toNat) σ) :
    wpAny (model C.prog C.w) A (call (.type "range") [.int k t]) (fun r s₁ => wpAny (model C.prog C.w) A (pyIter r) (ItAt C F hid A target ρ K s₀) NoE s₁) NoE s := by
  refine call_range_1 ?_
  refine wpAny_pyIter_range (IsRange.new _ _ _ _ _ _ _) (small_one (by (first | lia | omega)) (by (first | lia | omega)) (by (first | lia | omega)) (by (first | lia | omega))) ?_
  have hsz : Builtin.Range.rangeSize 0 k 1 = (k.toNat : Int) := by rw [rangeSize_one]; split <;> (first | lia | omega)
  have hlen : (rangeD k.toNat).length = k.toNat := rangeF_length _ _
  generalize hh : s.heap.push { cls := .type "range", data := .fields #[.int 0 s.toks, .int k t, .int 1 (s.toks + 1)] } = h1
  have hz : h1.objs.size = s.heap.objs.size + 1 := by rw [← hh]; exact Heap.size_push ..
  have up : s.heap.StaysIn h1 := by rw [← hh]; exact stays_push _
  have W := Walks.range (prog := C.prog) (w := C.w) hA (s.heap.objs.size + 1) 0 1 (rangeD k.toNat).length
  have it0 := Heap.get?_push_size h1 (o := { cls := .type "range_iterator", data := .fields #[rawInt 0, rawInt (Builtin.Range.rangeSize 0 k 1), rawInt 1] }) rfl
  refine ⟨rangeD k.toNat, σ, s.heap.objs.size + 1, [s.heap.objs.size + 1], [s.heap.objs.size + 1], _, s, congrArg Value.ref hz, h, It.ofWalks W (fun i h' S => all1 ?_) ?_ ?_, ?_, st, sp, ⟨fun b o e => Heap.get?_push_of_some _ (up b o e), rfl⟩,
    all1 (Heap.get?_none_of_le (Nat.le_succ _)), all1 ?_, all1 (fresh_of st.live (Nat.le_succ _)), by (first | lia | omega)⟩
  · have S' : h'.get? _ = _ := S
    exact some_live S'
  · rintro i s' v Q ⟨t', rfl⟩ S hQ
    unfold letOwnedTupleGo
    cases target <;> exact wpAny_pure hQ
  · rintro i v hi ⟨t', rfl⟩
    rw [hlen] at hi
    refine ⟨_, rangeF_get _ 0 i hi, ?_⟩
    have e : (0 : Int) + (i : Int) * 1 = Int.ofNat (0 + i) := by rw [Int.mul_one, Int.zero_add, Nat.zero_add]; rfl
    rw [e]
    exact .int _ _
  · rw [hz] at it0
    show IsRangeIter _ _ _ _ _
    rw [hlen, ← hsz]
    simpa [IsRangeIter, rawInt] using it0
  · rw [← hz]
    exact some_live it0

theorem enum_it {elts : List Expr} {k : Nat} {pos : Pos} {l : List D} {v : Value} (hA : A.handled = none) (r : Rep C.toWd (hideAll s.heap hid) v (.lst l)) (st : St C F hid ρ σ s.heap) (sp : Step C.aw F.L s₀ s) (h : K (enumD 0 l) σ) :
    wpAny (model C.prog C.w) A (call (.type "enumerate") [v]) (fun r s₁ => wpAny (model C.prog C.w) A (pyIter r) (ItAt C F hid A (.Tuple elts k pos) ρ K s₀) NoE s₁) NoE s := by
  cases r with | @lst a vs z t1 t2 =>
  have ht := isList_keeps t1 (stays_out hid)
  obtain ⟨oa, hoa, _⟩ := id t1
  have hlt := Heap.lt_size (of_hideAll _ hoa)
  have hl := RepL.length t2
  rw [Array.length_toList] at hl
  refine call_enumerate_list ht fun h' he hit hz st' => ?_
  refine wpAny_pyIter_enum he ?_
  have W := WalksT.enumerate (prog := C.prog) (w := C.w) hA (s.heap.objs.size + 1) s.heap.objs.size a (Nat.succ_ne_self _) (Nat.ne_of_lt (Nat.lt_succ_of_lt hlt)) (Nat.ne_of_lt hlt) vs
  have hlen : (enumD 0 l).length = vs.size := by rw [enumD_length, hl]
  have hit' := id hit
  obtain ⟨oi, hoi, _⟩ := hit'
  refine ⟨enumD 0 l, σ, s.heap.objs.size + 1, [s.heap.objs.size + 1, s.heap.objs.size, a], [s.heap.objs.size + 1, s.heap.objs.size], _, s, rfl, h, ⟨W.sub, W.frame, ?_, fun i s' Q S hQ => W.self i s' Q _ S hQ, ?_⟩, ⟨⟨_, he⟩, hit, isList_keeps ht st'⟩, st, sp, Grow.heap' st',
    all2 (Heap.get?_none_of_le (Nat.le_succ _)) (Heap.get?_none_of_le (Nat.le_refl _)), all3 ?_ (some_live hoi) (some_live (st' _ _ (of_hideAll _ hoa))), all3 (fresh_of st.live (Nat.le_succ _)) (fresh_hid st.live) (not_hid hoa), by rw [hlen]; exact z⟩
  · rintro i h' ⟨⟨old, S1⟩, ⟨o, S2, _⟩, S3⟩
    have S1' : h'.get? _ = _ := S1
    exact all2 (some_live S1') (some_live S2)
  · intro i s' hid' S hi hw base hlive
    by_cases hlt' : i < vs.size
    · refine W.item i s' _ _ hlt' S fun T vals h₁ tk hP hT hTu hMid k₁ => ?_
      obtain ⟨t, x, hx, rfl⟩ := hP
      refine W.go _ _ _ i T _ _ _ hMid fun h₂ S₂ k₂ => ?_
      obtain ⟨d, hd, rd⟩ := RepL.getV t2 (by rw [← Array.getElem?_toList] at hx; exact hx)
      have kk : KeepB [s.heap.objs.size + 1, s.heap.objs.size] s'.heap h₂ := fun b o n e => k₂ b o n (k₁ b o n e)
      have hTw := W.apart i T h₁ hMid
      obtain ⟨oT, hoT, cT, nT, dT⟩ := hTu
      have e : (i : Int) = Int.ofNat (0 + i) := by rw [Nat.zero_add]; rfl
      exact .item (enumD_get l 0 i d hd) S₂ kk (.tup (vs := #[.int i t, x]) (show 2 ≤ 1000 by decide) ⟨oT, hideAll_get _ (k₂ T oT hTw hoT) (fresh_of hlive hT), cT, nT, dT⟩ (.cons (e ▸ .int _ _) (.cons (rd.keeps fun b o e => keepWr hw kk b o (base b o e)) .nil)))
    · have e : i = vs.size := Nat.le_antisymm (hlen ▸ hi) (Nat.not_lt.mp hlt')
      subst e
      exact W.done s' _ _ S fun h' tk k => .done hlen.symm k
  · have he' : h'.get? _ = _ := he
    exact some_live he'
end
end Mine.Internal

end
section
open PySem PySem.W PyProof.Rows PySem.Calls
set_option Elab.async false
set_option tactic.hygienic false
set_option genSizeOf false
set_option genInjectivity false
set_option linter.all false
set_option backward.match.sparseCases false
set_option bootstrap.genMatcherCode false
namespace Mine.Internal
theorem nmW_inv {e : Expr} {K : Str → Prop} (h : nmW e K) : ∃ x p, e = .Name x p ∧ K x := by
  cases e <;> first | exact h.elim | exact ⟨_, _, rfl, h⟩
section
variable {C : Cfg} {F : Fm} {hid : List Addr} {A : Around} {ρ : En} {σ : Sg} {s s' s'' : Shared}

theorem PA.from {K : En → Prop} (h : PA C F hid σ K s' s'') (sp : Step C.aw F.L s s') : PA C F hid σ K s s'' :=
  match h with | .mk ρ k st sp' => .mk ρ k st (sp.trans sp')

theorem unpackItems_any {d : D} {ds : List D} {v : Value} {Q : List Value → Shared → Prop} (hA : A.handled = none) (r : Rep C.toWd (hideAll s.heap hid) v d) (hd : itemsW d fun l => l = ds)
    (h : ∀ vs h', s.heap.StaysIn h' → RepL C.toWd (hideAll s.heap hid) vs ds → Q vs { s with heap := h' }) : wpAny (model C.prog C.w) A (unpackItems v ds.length none) Q NoE s := by
  have st : ∀ h' : Heap, Heap.ExtBut s.heap.objs.size s.heap h' → s.heap.StaysIn h' := fun h' e b o x => e b o (Nat.ne_of_lt (Heap.lt_size x)) x
  cases d <;> first | exact hd.elim | (have hd : _ = ds := hd; subst hd)
  · cases r with | tup z t1 t2 =>
    have hl := RepL.length t2
    rw [Array.length_toList] at hl
    rw [← hl]
    exact unpackItems_tuple hA (t1.keeps (stays_out hid)) fun h' e => h _ h' (st h' e) t2
  · cases r with | lst z t1 t2 =>
    have hl := RepL.length t2
    rw [Array.length_toList] at hl
    rw [← hl]
    exact kun_itemsOf hA (isList_keeps t1 (stays_out hid)) fun h' e => h _ h' (st h' e) t2

structure AsgS (env : Env) (ts : List Expr) (ds : List D) : Prop where
  len : ts.length = ds.length
  star : (assignEach ts env).findIdx? (·.1) = none
  each : (assignEach ts env).length = ts.length
theorem asgs_shape {cx : Cx} {env : Env} {K : En → Prop} : ∀ {ts : List Expr} {ds : List D} {ρ : En}, asgsW cx ts ds ρ K → AsgS env ts ds
  | [], ds, _, h => by
    obtain ⟨rfl, _⟩ := nil1_inv (show nil1 ds _ from h)
    exact ⟨rfl, rfl, rfl⟩
  | _ :: _, [], _, h => False.elim h
  | t :: ts, d :: ds, ρ, h => by
    obtain ⟨x, p, rfl, h⟩ := nmW_inv (show nmW t (fun x => asgW cx x d ρ fun ρ => asgsW cx ts ds ρ K) from h)
    obtain ⟨_, h⟩ := onlyT_inv h
    cases asgs_shape h with | mk a b c =>
    refine ⟨congrArg (· + 1) a, ?_, congrArg (· + 1) c⟩
    show List.findIdx? (·.1) ((false, _) :: assignEach ts env) = none
    rw [List.findIdx?_cons, b]; rfl

theorem asgs_sound {K : En → Prop} (e : EnvOk F) (ha : C.aw ∈ hid) (hL : F.L ∈ hid) (hne : C.aw ≠ F.L) : ∀ {ts : List Expr} {ds : List D} {vs : List Value} {ρ : En} {s : Shared}, asgsW F.cx ts ds ρ K → RepL C.toWd (hideAll s.heap hid) vs ds → St C F hid ρ σ s.heap →
    wpAny (model C.prog C.w) A (assignInOrder ((assignEach ts F.env).map (·.2)) vs) (fun _ s' => PA C F hid σ K s s') NoE s
  | [], ds, _, ρ, s, h, r, st => by
    obtain ⟨rfl, h⟩ := nil1_inv (show nil1 ds _ from h)
    cases r
    exact wpAny_pure ⟨ρ, h, st, .refl s⟩
  | _ :: _, [], _, _, _, h, _, _ => False.elim h
  | t :: ts, d :: ds, _, ρ, s, h, r, st => by
    obtain ⟨x, p, rfl, hk⟩ := nmW_inv (show nmW t (fun x => asgW F.cx x d ρ fun ρ => asgsW F.cx ts ds ρ K) from h)
    cases r with | @cons v vs r1 r2 =>
    show wpAny _ _ (do holding vs (assign (.Name _ _) F.env v); assignInOrder ((assignEach ts F.env).map (·.2)) vs) _ _ _
    refine wpAny_bind (wpAny_holding (wpAny_mono (wpAny_assign_Name (store_sound e ha hL hne st r1 hk)) (fun _ s1 q => ?_) fun _ _ x => x))
    cases q with | mk ρ1 h1 st1 sp1 =>
    exact wpAny_mono (asgs_sound e ha hL hne h1 (RepL.keeps r2 (sp1.fz ha hL)) st1) (fun _ s2 q => q.from sp1) fun _ _ x => x

theorem tuple_asg {K : En → Prop} {ts : List Expr} {k : Nat} {p : Pos} {d : D} {v : Value} (hA : A.handled = none) (e : EnvOk F) (ha : C.aw ∈ hid) (hL : F.L ∈ hid) (hne : C.aw ≠ F.L) {ds : List D} (hd : itemsW d fun l => l = ds) (h : asgsW F.cx ts ds ρ K)
    (r : Rep C.toWd (hideAll s.heap hid) v d) (st : St C F hid ρ σ s.heap) : wpAny (model C.prog C.w) A (assign (.Tuple ts k p) F.env v) (fun _ s' => PA C F hid σ K s s') NoE s := by
  cases asgs_shape (env := F.env) h with | mk h1 h2 h3 =>
  rw [arm_assign_Tuple]
  refine wpAny_bind (wpAny_standAt ?_)
  unfold unpack
  rw [h2, h3, h1]
  refine wpAny_bind (wpAny_holding (unpackItems_any hA r hd fun vs h' st' rr => ?_))
  exact wpAny_mono (asgs_sound e ha hL hne h (rr.keeps (stays_hid hid st')) (st.grow st')) (fun _ s2 q => q.from (Grow.heap' st').step) fun _ _ x => x

theorem tgt_sound {K : En → Prop} {t : Expr} {d : D} {v : Value} (hA : A.handled = none) (e : EnvOk F) (ha : C.aw ∈ hid) (hL : F.L ∈ hid) (hne : C.aw ≠ F.L) (h : tgtW F.cx t d ρ K) (r : Rep C.toWd (hideAll s.heap hid) v d) (st : St C F hid ρ σ s.heap) :
    wpAny (model C.prog C.w) A (assign t F.env v) (fun _ s' => PA C F hid σ K s s') NoE s := by
  cases t <;> first | exact h.elim | skip
  · exact wpAny_assign_Name (store_sound e ha hL hne st r h)
  · cases tupW_inv h with | @mk l h' => exact tuple_asg (d := .tup l) (ds := l) hA e ha hL hne (show l = l from rfl) h' r st

inductive PS (C : Cfg) (F : Fm) (hid : List Addr) (Qn : En → Sg → Prop) (Qr : D → Sg → Prop) (s : Shared) : Flow → Shared → Prop
  | next {s' : Shared} (ρ : En) (σ : Sg) (q : Qn ρ σ) (st : St C F hid ρ σ s'.heap) (sp : Step C.aw F.L s s') : PS C F hid Qn Qr s .next s'
  | ret {s' : Shared} {v : Value} (d : D) (σ : Sg) (ρ : En) (q : Qr d σ) (r : Rep C.toWd (hideAll s'.heap hid) v d) (st : St C F hid ρ σ s'.heap) (sp : Step C.aw F.L s s') : PS C F hid Qn Qr s (.ret v) s'
theorem PS.from {Qn : En → Sg → Prop} {Qr : D → Sg → Prop} {fl : Flow} (h : PS C F hid Qn Qr s' fl s'') (sp : Step C.aw F.L s s') : PS C F hid Qn Qr s fl s'' := by
  cases h with
  | next ρ σ a b c => exact .next ρ σ a b (sp.trans c)
  | ret d σ ρ a b c e => exact .ret d σ ρ a b c (sp.trans e)

theorem drop_cons {α : Type} {ds : List α} {i : Nat} {d : α} (h : ds[i]? = some d) : ds.drop i = d :: ds.drop (i + 1) := by
  obtain ⟨hlt, e⟩ := List.getElem?_eq_some_iff.mp h
  rw [List.drop_eq_getElem_cons hlt, e]
structure Wr (C : Cfg) (F : Fm) (hid wr : List Addr) (hB : Heap) : Prop where
  ha : C.aw ∈ hid
  hL : F.L ∈ hid
  new : ∀ b ∈ wr, hB.get? b = none
  no : ∀ b ∈ wr, b ∉ hid
theorem Wr.fz {wr : List Addr} {hB h' : Heap} (w : Wr C F hid wr hB) (k : Keep (wr ++ [C.aw, F.L]) hB h') : (hideAll hB hid).StaysIn (hideAll h' (wr ++ hid)) := fun b o x => by
  have hx := of_hideAll _ x
  have nh := not_hid x
  have nw : b ∉ wr := fun q => by rw [w.new b q] at hx; cases hx
  refine hideAll_get _ (k b o (fun q => ?_) hx) fun q => (List.mem_append.mp q).elim nw nh
  rcases List.mem_append.mp q with q | q
  · exact nw q
  · rcases List.mem_cons.mp q with rfl | q
    · exact nh w.ha
    · exact nh (List.mem_singleton.mp q ▸ w.hL)
theorem Wr.step {wr : List Addr} {sB s₀ : Shared} (w : Wr C F hid wr sB.heap) (sp : Step C.aw F.L s₀ sB) (k : Keep (wr ++ [C.aw, F.L]) sB.heap s'.heap) (same : s' = { sB with heap := s'.heap, toks := s'.toks }) : Step C.aw F.L s₀ s' :=
  sp.trans ⟨fun b o n x => k b o (fun q => by
    rcases List.mem_append.mp q with q | q
    · rw [w.new b q] at x; cases x
    · exact n q) x, same⟩
theorem Wr.aw {wr : List Addr} {hB : Heap} (w : Wr C F hid wr hB) : C.aw ∉ wr := fun q => w.no _ q w.ha
theorem Wr.L {wr : List Addr} {hB : Heap} (w : Wr C F hid wr hB) : F.L ∉ wr := fun q => w.no _ q w.hL
inductive LpI (C : Cfg) (F : Fm) (hid wr : List Addr) (ds : List D) (S : Nat → Heap → Prop) (lo : List D → En → Sg → Prop) (sB : Shared) (k : Nat) (s' : Shared) : Prop
  | mk (i : Nat) (ρ : En) (σ : Sg) (hS : S i s'.heap) (hi : i ≤ ds.length) (hk : k = ds.length + 1 - i) (h : lo (ds.drop i) ρ σ) (st : St C F (wr ++ hid) ρ σ s'.heap)
    (kp : Keep (wr ++ [C.aw, F.L]) sB.heap s'.heap) (same : s' = { sB with heap := s'.heap, toks := s'.toks })
theorem live_sub {wr hid : List Addr} {h h' : Heap} (k : KeepB wr h h') (no : ∀ b ∈ wr, b ∉ hid) (l : Live (wr ++ hid) h) : Live hid h' := fun a q =>
  live_keep k (fun z => no a z q) (l a (List.mem_append_right _ q))
theorem live_all {wr hid : List Addr} {h h' : Heap} (k : KeepB wr h h') (lw : Live wr h') (l : Live hid h) : Live hid h' := fun a q => by
  by_cases z : a ∈ wr
  · exact lw a z
  · exact live_keep k z (l a q)

theorem loop_sound {K : En → Sg → Prop} {Qr : D → Sg → Prop} {t : Expr} {body : List Stmt} {bw : En → Sg → (En → Sg → Prop) → Prop} {it : Value} {s₀ : Shared} (hA : A.handled = none) (e : EnvOk F) (ha : C.aw ∈ hid) (hL : F.L ∈ hid) (hne : C.aw ≠ F.L)
    (hbody : ∀ (hid : List Addr) ρ σ K s, C.aw ∈ hid → F.L ∈ hid → bw ρ σ K → St C F hid ρ σ s.heap → wpAny (model C.prog C.w) A (execs body F.env) (PS C F hid K Qr s) NoE s)
    (h : ItAt C F hid A t ρ (fun ds σ => ForI (fun d ρ K => tgtW F.cx t d ρ K) bw ds ρ σ K) s₀ it s) {R : Result → Shared → Prop} (hR : ∀ f s', PS C F hid K Qr s₀ f s' → R (.ok f) s') :
    codeAny (model C.prog C.w) A (.forLoop t it body [] F.env) R s := by
  cases h with | mk ds σ₁ I fp wr S sB e0 hK W hS stB spB gB hwr hfp hfh hdl =>
  subst e0
  obtain ⟨hK⟩ := hK
  have w : Wr C F hid wr sB.heap := ⟨ha, hL, hwr, fun b hb => hfh b (W.sub b hb)⟩
  have ha' : C.aw ∈ wr ++ hid := List.mem_append_right _ ha
  have hL' : F.L ∈ wr ++ hid := List.mem_append_right _ hL
  refine codeAny_forLoop_any (LpI C F hid wr ds S (fun l ρ σ => loopW (fun d ρ K => tgtW F.cx t d ρ K) bw l ρ σ K) sB) (fun k s' x => ?_) (ds.length + 1) ?_
  · cases x with | mk i ρ σ hS hi hk hlo st kp same =>
    subst hk
    refine wpAny_mono (W.step i s' (wr ++ hid) hS hi (fun _ q => List.mem_append_left _ q) (w.fz kp) st.live) (fun r s₁ hr => ?_) fun _ _ x => x.elim
    cases r with
    | none =>
      cases hr with | done hi' k1 =>
      refine wpAny_execs_nil (hR _ _ (.next ρ σ ?_ (st.move (fun b o x => hideAll_get _ (k1 b o (fun q => not_hid x (List.mem_append_left _ q)) (of_hideAll _ x)) fun q => not_hid x (List.mem_append_right _ q))
        (live_sub k1 w.no st.live) (fun o x => k1 _ o w.L x) fun o x => k1 _ o w.aw x) (w.step spB (fun b o n x => k1 b o (fun q => n (List.mem_append_left _ q)) (kp b o n x)) (by rw [same]))))
      subst hi'
      rw [List.drop_length] at hlo
      exact hlo
    | some v =>
      refine wpAny_mono hr (fun _ sx hr => ?_) fun _ _ x => x.elim
      cases hr with | @item d _ h' tk hd hS' k1 r =>
      rw [drop_cons hd] at hlo
      have st1 : St C F (wr ++ hid) ρ σ h' := st.move (keepWr (fun _ q => List.mem_append_left _ q) k1) (live_all k1 (W.live _ _ hS') st.live) (fun o x => k1 _ o w.L x) fun o x => k1 _ o w.aw x
      refine wpAny_mono (tgt_sound (s := { s' with heap := h', toks := tk }) hA e ha' hL' hne hlo r st1) (fun _ s2 q => ?_) fun _ _ x => x.elim
      cases q with | mk ρ1 hbw st2 sp2 =>
      refine wpAny_mono (hbody _ _ _ _ _ ha' hL' hbw st2) (fun f s3 q => ?_) fun _ _ x => x.elim
      have kp1 : Keep (wr ++ [C.aw, F.L]) sB.heap h' := fun b o n x => k1 b o (fun q => n (List.mem_append_left _ q)) (kp b o n x)
      have old : ∀ {s3 : Shared}, Step C.aw F.L s2 s3 → Keep (wr ++ [C.aw, F.L]) sB.heap s3.heap := fun sp3 b o n x =>
        sp3.keep b o (fun q => n (List.mem_append_right _ q)) (sp2.keep b o (fun q => n (List.mem_append_right _ q)) (kp1 b o n x))
      have same3 : ∀ {s3 : Shared}, Step C.aw F.L s2 s3 → s3 = { sB with heap := s3.heap, toks := s3.toks } := fun sp3 => by rw [sp3.same, sp2.same, same]
      cases q with
      | next ρ3 σ3 hlo3 st3 sp3 =>
        refine ⟨ds.length + 1 - (i + 1), by have := (List.getElem?_eq_some_iff.mp hd).1; (first | lia | omega), i + 1, reN ρ ρ3, σ3, W.frame _ _ _ hS' fun b hb o x => ?_, (List.getElem?_eq_some_iff.mp hd).1, rfl, hlo3, st3.less (fun y d e => reN_lk e), old sp3, same3 sp3⟩
        have nb : b ∉ [C.aw, F.L] := fun q => by
          rcases List.mem_cons.mp q with rfl | q
          · exact hfh _ hb ha
          · exact hfh _ hb (List.mem_singleton.mp q ▸ hL)
        exact sp3.keep b o nb (sp2.keep b o nb x)
      | ret d' σ3 ρ3 hq r3 st3 sp3 =>
        exact hR _ _ (.ret d' σ3 ρ3 hq (r3.keeps (hideAll_sub _ fun a q => List.mem_append_right _ q)) (st3.sub fun a q => List.mem_append_right _ q) (w.step spB (old sp3) (same3 sp3)))
  · have kp : Keep (wr ++ [C.aw, F.L]) sB.heap s.heap := .ofStays gB.stays
    exact ⟨0, ρ, σ₁, hS, Nat.zero_le _, rfl, hK, stB.move (w.fz kp) (fun a q => (List.mem_append.mp q).elim (fun q => hfp a (W.sub a q)) fun q => live_stays stB.live gB.stays a q) (fun o x => gB.stays _ o x) fun o x => gB.stays _ o x, kp, gB.same⟩
end
end Mine.Internal

end
section
open PySem PySem.W PyProof.Rows PySem.Calls
set_option Elab.async false
set_option tactic.hygienic false
set_option genSizeOf false
set_option genInjectivity false
set_option linter.all false
set_option backward.match.sparseCases false
set_option bootstrap.genMatcherCode false
namespace Mine.Internal

theorem sDebug_is : sDebug = Str.ofString "__debug__" := by decide +kernel
theorem sClassdict_is : sClassdict = Str.ofString "__classdict__" := by decide +kernel
theorem ne_of_seqb {x y : Str} (h : seqb x y = false) : (x == y) = false := by rw [← seqb_beq]; exact h
structure GdN (all : List (Str × NameKind)) (kap : En) (x : Str) (k : NameKind) : Prop where
  dbg : seqb x sDebug = false
  cld : seqb x sClassdict = false
  loc : k = .local → lk x all = some .local
  fre : k = .free → (lk x kap).isSome = true
  cel : k ≠ .cell
theorem not_t {b : Bool} (h : (!b) = true) : b = false := by cases b; rfl; cases h
theorem goodK_inv {all : List (Str × NameKind)} {kap : En} {x : Str} {k : NameKind} (h1 : seqb x sDebug = false) (h2 : seqb x sClassdict = false) (h : goodK all kap x k = true) : GdN all kap x k := by
  cases k with
  | «local» => exact ⟨h1, h2, fun _ => isLocalK_spec h, (fun e => nomatch e), fun e => nomatch e⟩
  | free => exact ⟨h1, h2, (fun e => nomatch e), fun _ => h, fun e => nomatch e⟩
  | globalImplicit => exact ⟨h1, h2, (fun e => nomatch e), (fun e => nomatch e), fun e => nomatch e⟩
  | _ => cases h
theorem goodNames_all {all : List (Str × NameKind)} {kap : En} : ∀ {l : List (Str × NameKind)}, goodNames all kap l = true → ∀ x k, (x, k) ∈ l → GdN all kap x k
  | (y, j) :: r, h, x, k, hm => by
    obtain ⟨h1, h⟩ := Bool.and_eq_true_iff.mp h
    obtain ⟨h2, h⟩ := Bool.and_eq_true_iff.mp h
    obtain ⟨h3, h⟩ := Bool.and_eq_true_iff.mp h
    rcases List.mem_cons.mp hm with e | hm
    · cases e; exact goodK_inv (not_t h1) (not_t h2) h3
    · exact goodNames_all h x k hm
theorem lk_mem {α : Type} {x : Str} {k : α} : ∀ {l : List (Str × α)}, lk x l = some k → (x, k) ∈ l
  | (y, j) :: r, h => by
    rcases ne_of_lk h with ⟨rfl, e⟩ | ⟨_, e⟩
    · cases e; exact .head _
    · exact .tail _ (lk_mem e)
set_option tactic.hygienic true in
theorem capK_spec {names : List (Str × NameKind)} {x : Str} {d : D} : ∀ {kap : En}, lk x (capK names kap) = some d → lk x kap = some d ∧ lk x names = some .free
  | (y, e) :: r, h => by
    unfold capK at h
    split at h
    · rename_i hy
      rcases ne_of_lk h with ⟨rfl, q⟩ | ⟨q, h⟩
      · cases q; exact ⟨lk_cons_self, hy⟩
      · exact ⟨(lk_cons_ne q).trans (capK_spec h).1, (capK_spec h).2⟩
    · rename_i hy
      have b := capK_spec h
      exact ⟨(lk_cons_ne fun q => hy (by rw [← q]; exact b.2)).trans b.1, b.2⟩

noncomputable def takes (env : Env) : List (Str × NameKind) → List (Str × Addr) → List (Str × Addr)
  | [], cs => cs
  | (n, k) :: r, cs => takes env r (if k == .free then (n, (env.cells.lookup n).getD 0) :: cs else cs)
theorem closureFor_takes {scope : Scope} {env : Env} (h : ∀ n, (n, NameKind.free) ∈ scope.names → ∃ c, env.cells.lookup n = some c) : closureFor scope env = pure (takes env scope.names []) := by
  have key : ∀ (l : List (Str × NameKind)) (cs : List (Str × Addr)), (∀ n, (n, NameKind.free) ∈ l → ∃ c, env.cells.lookup n = some c) →
      (forIn l cs (fun (x : Str × NameKind) (r : List (Str × Addr)) => (if (x.2 == NameKind.free) = true then do let c ← cellOf env x.1; pure (ForInStep.yield ((x.1, c) :: r)) else pure (ForInStep.yield r) : Sem (ForInStep (List (Str × Addr))))) : Sem (List (Str × Addr))) = pure (takes env l cs) := by
    intro l
    induction l with
    | nil => intro cs _; rfl
    | cons x l ih =>
      intro cs hl
      obtain ⟨n, k⟩ := x
      rw [List.forIn_cons]
      by_cases hk : (k == NameKind.free) = true
      · obtain ⟨c, hc⟩ := hl n (by rw [beq_iff_eq.mp hk]; exact .head _)
        have hcell : cellOf env n = pure c := by unfold cellOf; rw [hc]
        simp only [hk, if_true, hcell, pure_bind]
        rw [ih _ fun m hm => hl m (.tail _ hm)]
        simp [takes, hk, hc]
      · simp only [hk, Bool.false_eq_true, if_false, pure_bind]
        rw [ih _ fun m hm => hl m (.tail _ hm)]
        simp [takes, hk]
  have e := key scope.names [] h
  have e2 : closureFor scope env = ((forIn scope.names [] (fun (x : Str × NameKind) (r : List (Str × Addr)) => (if (x.2 == NameKind.free) = true then do let c ← cellOf env x.1; pure (ForInStep.yield ((x.1, c) :: r)) else pure (ForInStep.yield r) : Sem (ForInStep (List (Str × Addr))))) : Sem (List (Str × Addr))) >>= fun cs => pure cs) := by
    unfold closureFor
    first | rfl | (congr 1)
  rw [e2, e, pure_bind]

theorem takes_look {env : Env} : ∀ (l : List (Str × NameKind)) (cs : List (Str × Addr)), (∀ y c, cs.lookup y = some c → c = (env.cells.lookup y).getD 0) → ∀ x, ((x, NameKind.free) ∈ l ∨ (cs.lookup x).isSome = true) →
    (takes env l cs).lookup x = some ((env.cells.lookup x).getD 0)
  | [], cs, h, x, hx => by
    have hx' : (cs.lookup x).isSome = true := by rcases hx with q | q; exact nomatch q; exact q
    obtain ⟨c, hc⟩ := Option.isSome_iff_exists.mp hx'
    show cs.lookup x = _
    rw [hc, h x c hc]
  | (n, k) :: r, cs, h, x, hx => by
    unfold takes
    by_cases hk : (k == NameKind.free) = true
    · rw [if_pos hk]
      refine takes_look r _ (fun y c hy => ?_) x ?_
      · rw [List.lookup_cons] at hy
        split at hy
        · rename_i e; cases hy; rw [beq_iff_eq.mp e]
        · exact h y c hy
      · by_cases e : x = n
        · right; subst e; simp [List.lookup_cons]
        · rcases hx with q | q
          · rcases List.mem_cons.mp q with q | q
            · cases q; exact absurd rfl e
            · exact .inl q
          · right
            rw [List.lookup_cons, beq_false_of_ne e]; exact q
    · rw [if_neg hk]
      refine takes_look r _ h x ?_
      rcases hx with q | q
      · rcases List.mem_cons.mp q with q | q
        · cases q; exact absurd rfl hk
        · exact .inl q
      · exact .inr q
theorem relabel_look {k : NameKind} {x : Str} (c : Str → NameKind → Bool) : ∀ {names : List (Str × NameKind)}, lk x names = some k →
    (names.map fun (n, k) => if c n k = true then (n, NameKind.cell) else (n, k)).lookup x = some (if c x k = true then NameKind.cell else k)
  | (n, j) :: r, h => by
    show List.lookup x ((if c n j = true then (n, NameKind.cell) else (n, j)) :: _) = _
    rcases ne_of_lk h with ⟨rfl, e⟩ | ⟨e, h⟩
    · cases e
      cases c x k <;> simp
    · have ih := relabel_look c h
      have ne : (x == n) = false := beq_false_of_ne e
      by_cases hcn : c n j = true
      · rw [if_pos hcn, List.lookup_cons, ne]; exact ih
      · rw [if_neg hcn, List.lookup_cons, ne]; exact ih

section
variable {prog : Program} {w : World} {A : Around} {R : Result → Shared → Prop} {s : Shared}
theorem compLoop_any {elt target iter : Expr} {ifs : List Expr} {scope : Scope} {pos : Pos} {it acc : Value} {env : Env} (I : Nat → Shared → Prop)
    (turn : ∀ n s, I n s → wpAny (model prog w) A (pyNext it) (fun r s₁ => match r with
      | none => R (.ok .next) s₁
      | some v => wpAny (model prog w) A (letOwnedTupleGo target it v) (fun _ s₁' => wpAny (model prog w) A (assign target env v) (fun _ s₂ =>
          wpAny (model prog w) A (forIn ifs true fun c r => if r = true then do let ok ← isTrue c env (eval c env); pure (ForInStep.yield ok) else pure (ForInStep.yield r)) (fun ok s₃ =>
            if ok = true then wpAny (model prog w) A (eval elt env) (fun x s₄ =>
              wpAny (model prog w) A (call (.builtin "list.append") [acc, x]) (fun _ s₅ => ∃ m, m < n ∧ I m s₅) NoE s₄) NoE s₃
            else ∃ m, m < n ∧ I m s₃) NoE s₂) NoE s₁') NoE s₁) NoE s)
    (n : Nat) (h : I n s) : codeAny (model prog w) A (.compLoop (.ListComp elt [⟨target, iter, ifs, 0⟩] scope pos) 0 it acc env) R s := by
  refine codeAny_loop rfl I (fun n s hI => ?_) n h
  show wpAny _ A ((compTurn (.ListComp elt [⟨target, iter, ifs, 0⟩] scope pos) 0 it acc env).onRaise (fun x => do noteFrame x env; theTreesLotGoes x)) _ _ s
  refine wpAny_noted ?_
  rw [compTurn_list]
  refine wpAny_bind (wpAny_standAt (wpAny_bind (wpAny_mono (turn n s hI) (fun r s₁ h₁ => ?_) fun _ _ h' => h'.elim)))
  cases r with
  | none => exact wpAny_pure h₁
  | some v =>
    refine wpAny_bind (wpAny_mono h₁ (fun _ s₁' h₁ => ?_) fun _ _ h' => h'.elim)
    refine wpAny_bind (wpAny_mono h₁ (fun _ s₂ h₂ => wpAny_bind (wpAny_mono h₂ (fun ok s₃ h₃ => ?_) fun _ _ h' => h'.elim)) fun _ _ h' => h'.elim)
    cases ok with
    | false => exact wpAny_pure ⟨rfl, h₃⟩
    | true =>
      exact wpAny_bind (wpAny_bind (wpAny_mono h₃ (fun x s₄ h₄ => wpAny_bind (wpAny_mono h₄ (fun _ s₅ h₅ => wpAny_pure (wpAny_pure ⟨rfl, h₅⟩)) fun _ _ h' => h'.elim)) fun _ _ h' => h'.elim))
end

noncomputable abbrev cEnv (scope : Scope) (env : Env) (K : Addr) : Env := { newEnv scope K env.globals (takes env scope.names []) env.qual none .none (some env) builtinsNs with scope := relabel scope env }
noncomputable abbrev cF (scope : Scope) (F : Fm) (K : Addr) : Fm := ⟨⟨scope.names, capK scope.names F.cx.kap⟩, cEnv scope F.env K, K⟩
structure CpOk (scope : Scope) (kap : En) : Prop where
  kind : scope.kind = .function
  all : ∀ x k, (x, k) ∈ scope.names → GdN scope.names kap x k
theorem compOk_inv {scope : Scope} {kap : En} (h : compOk scope kap = true) : CpOk scope kap := by
  unfold compOk at h
  cases hk : scope.kind <;> rw [hk] at h <;> first | exact ⟨hk, goodNames_all h⟩ | cases h

section
variable {C : Cfg} {F : Fm} {hid : List Addr} {A : Around} {ρ : En} {σ : Sg} {s : Shared} {scope : Scope}

theorem cEnv_ok {K : Addr} (e : EnvOk F) (hc : CpOk scope F.cx.kap) : EnvOk (cF scope F K) := by
  refine ⟨hc.kind, rfl, e.glob, e.bui, fun x k hx hf => ?_, fun x k hx => ?_⟩
  · refine (relabel_look (fun n k => k == NameKind.free && F.env.scope.kind == .function && F.env.kindOf n == some .cell) hx).trans ?_
    have : (k == NameKind.free) = false := by simpa using hf
    simp [this]
  · rw [← sDebug_is]; exact ne_of_seqb (hc.all x k (lk_mem hx)).dbg
theorem compOk_cells (hc : CpOk scope F.cx.kap) (st : St C F hid ρ σ s.heap) : ∀ n, (n, NameKind.free) ∈ scope.names → ∃ c, F.env.cells.lookup n = some c := fun n hn => by
  obtain ⟨d, hd⟩ := Option.isSome_iff_exists.mp ((hc.all n _ hn).fre rfl)
  cases st.kap n d hd with | mk c o v a1 => exact ⟨c, a1⟩
theorem cEnv_st {K : Addr} {m : Str → Option Value} {hid' : List Addr} {h h' : Heap} (st : St C F hid ρ σ h) (hK : h'.Ns K m)
    (fz : (hideAll h hid).StaysIn (hideAll h' hid')) (live : Live hid' h') (ka : ∀ o, h.get? C.aw = some o → h'.get? C.aw = some o) : St C (cF scope F K) hid' [] σ h' where
  base := C.keeps st.base fz
  live := live
  loc := ⟨m, hK, fun x d h => nomatch h⟩
  kloc := fun x d h => nomatch h
  kap := fun x d h => by
    obtain ⟨h1, h2⟩ := capK_spec h
    cases (st.kap x d h1).keeps fz with | mk c o v a1 a2 a3 a4 a5 a6 a7 =>
    refine ⟨c, o, v, ?_, ?_, a3, a4, a5, a6, a7⟩
    · exact (takes_look _ [] (fun _ _ hy => by cases (show (none : Option Addr) = some _ from hy)) x (.inl (lk_mem h2))).trans (by rw [a1]; rfl)
    · have := relabel_look (fun n k => k == NameKind.free && F.env.scope.kind == .function && F.env.kindOf n == some .cell) h2
      show (scope.names.map _).lookup x = some NameKind.cell ∨ (scope.names.map _).lookup x = some NameKind.free
      rw [this]
      split
      · exact .inl rfl
      · exact .inr rfl
  well := st.well.move fz ka
end
end Mine.Internal

end
section
open PySem PySem.W PyProof.Rows PySem.Calls
set_option Elab.async false
set_option tactic.hygienic false
set_option genSizeOf false
set_option genInjectivity false
set_option linter.all false
set_option backward.match.sparseCases false
set_option bootstrap.genMatcherCode false
namespace Mine.Internal
noncomputable abbrev BW := (D → (En → Prop) → Prop)
noncomputable abbrev TW := (En → Sg → (Bool → Sg → Prop) → Prop)
noncomputable abbrev EW := (En → Sg → (D → Sg → Prop) → Prop)
noncomputable abbrev LW := (List D → Sg → Prop)
inductive CpEnd (C : Cfg) (F : Fm) (hid : List Addr) (ρ : En) (K : LW) (s₀ : Shared) (Dl Cc : Addr) (s' : Shared) : Prop
  | mk (es : List D) (σ : Sg) (q : K es σ) (st : St C F (Cc :: hid) ρ σ s'.heap) (r : Rep C.toWd (hideAll s'.heap (Cc :: hid)) (.ref Dl) (.lst es)) (sp : Step C.aw F.L s₀ s') (m : Str → Option Value) (hm : s'.heap.Ns Cc m)
    (h1 : Cc ≠ F.L) (h2 : Cc ≠ C.aw) (hn : s₀.heap.get? Cc = none) (hd : s₀.heap.get? Dl = none) (hv : ∃ vs, s'.heap.PlainList Dl vs)
structure Cp (C : Cfg) (F : Fm) (scope : Scope) where
  hid : List Addr
  wr : List Addr
  fp : List Addr
  Cc : Addr
  Dl : Addr
  ds : List D
  S : Nat → Heap → Prop
  sB : Shared
  lo : List D → List D → Sg → Prop
section
variable {C : Cfg} {F : Fm} {scope : Scope}
noncomputable def Cp.nw (p : Cp C F scope) : List Addr := p.Cc :: p.Dl :: p.wr
noncomputable def Cp.hd (p : Cp C F scope) : List Addr := p.nw ++ p.hid
structure Cp.Ok (p : Cp C F scope) : Prop where
  w : Wr C F p.hid p.nw p.sB.heap
  sub : ∀ b ∈ p.wr, b ∈ p.fp
  fh : ∀ b ∈ p.fp, b ∉ p.hid
  cf : p.Cc ∉ p.fp
  df : p.Dl ∉ p.fp
  dc : p.Dl ≠ p.Cc
  ne : C.aw ≠ F.L
inductive CpI (p : Cp C F scope) (k : Nat) (s' : Shared) : Prop
  | mk (i : Nat) (σ : Sg) (es : List D) (vs : Array Value) (hS : p.S i s'.heap) (hi : i ≤ p.ds.length) (hk : k = p.ds.length + 1 - i) (h : p.lo es (p.ds.drop i) σ) (hDl : s'.heap.PlainList p.Dl vs)
    (hes : RepL C.toWd (hideAll s'.heap p.hd) vs.toList es) (hel : es.length ≤ i) (st : St C (cF scope F p.Cc) p.hd [] σ s'.heap) (kp : Keep (p.nw ++ [C.aw]) p.sB.heap s'.heap) (same : s' = { p.sB with heap := s'.heap, toks := s'.toks })

variable {p : Cp C F scope} {s s' : Shared} {ρ : En} {σ : Sg} {h h' : Heap}
theorem Cp.wnw (p : Cp C F scope) : ∀ b ∈ p.wr, b ∈ p.nw := fun _ q => .tail _ (.tail _ q)
theorem Cp.whd (p : Cp C F scope) : ∀ b ∈ p.wr, b ∈ p.hd := fun b q => List.mem_append_left _ (p.wnw b q)
theorem Cp.Chd (p : Cp C F scope) : p.Cc ∈ p.hd := .head _
theorem Cp.Ok.ahd (o : p.Ok) : C.aw ∈ p.hd := List.mem_append_right _ o.w.ha
theorem Cp.Ok.Cw (o : p.Ok) : p.Cc ∉ p.wr := fun q => o.cf (o.sub _ q)
theorem Cp.Ok.Dw (o : p.Ok) : p.Dl ∉ p.wr := fun q => o.df (o.sub _ q)
theorem Cp.Ok.aw (o : p.Ok) : C.aw ∉ p.wr := fun q => o.w.aw (p.wnw _ q)
theorem Cp.Ok.Ca (o : p.Ok) : C.aw ≠ p.Cc := fun e => o.w.no _ (.head _) (e ▸ o.w.ha)
theorem Cp.Ok.CL (o : p.Ok) : p.Cc ≠ F.L := fun e => o.w.no _ (.head _) (e ▸ o.w.hL)
theorem Cp.Ok.Da (o : p.Ok) : p.Dl ≠ C.aw := fun e => o.w.no _ (.tail _ (.head _)) (e ▸ o.w.ha)
theorem Cp.up (k : Keep (p.nw ++ [C.aw]) h h') : Keep (p.nw ++ [C.aw, F.L]) h h' := k.mono fun x q => by
  rcases List.mem_append.mp q with q | q
  · exact List.mem_append_left _ q
  · exact List.mem_append_right _ (List.mem_singleton.mp q ▸ .head _)
theorem Cp.then (k : Keep (p.nw ++ [C.aw]) p.sB.heap h) (k1 : KeepB p.wr h h') : Keep (p.nw ++ [C.aw]) p.sB.heap h' := fun b o n x =>
  k1 b o (fun q => n (List.mem_append_left _ (p.wnw b q))) (k b o n x)

theorem CpI.next {A : Around} {I : Addr} {target : Expr} {i : Nat} {s4 : Shared} {σ4 : Sg} {ρ4 : En} {es4 : List D} {vs4 : Array Value} (o : p.Ok) (W : It C.toWd A I p.fp p.wr p.hid p.sB.heap p.ds p.S target) (hS' : p.S (i + 1) h') (hlt : i < p.ds.length)
    (kp : Keep (p.nw ++ [C.aw]) p.sB.heap h') (k4 : Keep [C.aw, p.Cc, p.Dl] h' s4.heap) (same : s4 = { p.sB with heap := s4.heap, toks := s4.toks }) (lo : p.lo es4 (p.ds.drop (i + 1)) σ4) (hDl : s4.heap.PlainList p.Dl vs4)
    (hes : RepL C.toWd (hideAll s4.heap p.hd) vs4.toList es4) (hel : es4.length ≤ i + 1) (st : St C (cF scope F p.Cc) p.hd ρ4 σ4 s4.heap) : ∃ m, m < p.ds.length + 1 - i ∧ CpI p m s4 := by
  refine ⟨p.ds.length + 1 - (i + 1), by (first | lia | omega), i + 1, σ4, es4, vs4, W.frame _ _ _ hS' fun b hb ob x => k4 b ob (fun q => ?_) x, hlt, rfl, lo, hDl, hes, hel, st.forget, fun b ob n x => k4 b ob (fun q => n ?_) (kp b ob n x), same⟩
  · rcases List.mem_cons.mp q with rfl | q
    · exact o.fh _ hb o.w.ha
    · rcases List.mem_cons.mp q with rfl | q
      · exact o.cf hb
      · exact o.df (List.mem_singleton.mp q ▸ hb)
  · rcases List.mem_cons.mp q with rfl | q
    · exact List.mem_append_right _ (.head _)
    · rcases List.mem_cons.mp q with rfl | q
      · exact .head _
      · exact List.mem_singleton.mp q ▸ .tail _ (.head _)
theorem CpI.fin {s₀ : Shared} {tk : Nat} {vs : Array Value} {es : List D} {σ₁ σ : Sg} {K : LW} (o : p.Ok) (spB : Step C.aw F.L s₀ p.sB) (stB : St C F p.hid ρ σ₁ p.sB.heap) (hq : K es σ) (hDl : s'.heap.PlainList p.Dl vs)
    (hes : RepL C.toWd (hideAll s'.heap p.hd) vs.toList es) (hel : es.length ≤ 1000) (st : St C (cF scope F p.Cc) p.hd [] σ s'.heap) (kp : Keep (p.nw ++ [C.aw]) p.sB.heap s'.heap) (same : s' = { p.sB with heap := s'.heap, toks := s'.toks })
    (k1 : KeepB p.wr s'.heap h') : CpEnd C F p.hid ρ K s₀ p.Dl p.Cc { s' with heap := h', toks := tk } := by
  have hsub : ∀ a ∈ p.Cc :: p.hid, a ∈ p.hd := fun a q => by
    rcases List.mem_cons.mp q with rfl | q
    · exact .head _
    · exact List.mem_append_right _ q
  have fz : (hideAll s'.heap p.hd).StaysIn (hideAll h' (p.Cc :: p.hid)) := fun b ob x =>
    hideAll_get _ (k1 b ob (fun q => not_hid x (p.whd b q)) (of_hideAll _ x)) fun q => not_hid x (hsub b q)
  have kp' := Cp.then kp k1
  have hlen := hes.length
  rw [Array.length_toList] at hlen
  obtain ⟨nD, hoD⟩ := hDl
  cases st.loc with | mk m hn _ =>
  refine ⟨es, σ, hq, stB.moveW (fun b ob x => hideAll_sub h' hsub b ob (o.w.fz (Cp.up kp') b ob x)) (fun a q => ?_) (fun ob x => kp' _ ob (fun q => ?_) x) (st.well.move fz fun ob x => k1 _ ob o.aw x), .lst (by (first | lia | omega)) ⟨_, hideAll_get _ (k1 _ _ o.Dw hoD) (fun q => ?_), rfl, _, rfl⟩ (hes.keeps fz),
    o.w.step spB (Cp.up kp') (by rw [same]), m, hn.at' fun ob x => k1 _ ob o.Cw x, o.CL, Ne.symm o.Ca, ?_, ?_, vs, nD, k1 _ _ o.Dw hoD⟩
  · have l := st.live a (hsub a q)
    refine live_keep k1 (fun z => ?_) l
    rcases List.mem_cons.mp q with rfl | q
    · exact o.Cw z
    · exact o.w.no a (p.wnw a z) q
  · rcases List.mem_append.mp q with q | q
    · exact o.w.L q
    · exact o.ne (List.mem_singleton.mp q).symm
  · rcases List.mem_cons.mp q with q | q
    · exact o.dc q
    · exact o.w.no _ (.tail _ (.head _)) q
  · cases z : s₀.heap.get? p.Cc with
    | none => rfl
    | some ob =>
      have := spB.keep p.Cc ob (fun q => by
        rcases List.mem_cons.mp q with q | q
        · exact o.Ca q.symm
        · exact o.CL (List.mem_singleton.mp q)) z
      rw [o.w.new _ (.head _)] at this; cases this
  · cases z : s₀.heap.get? p.Dl with
    | none => rfl
    | some ob =>
      have := spB.keep p.Dl ob (fun q => by
        rcases List.mem_cons.mp q with q | q
        · exact o.Da q
        · exact o.w.no _ (.tail _ (.head _)) (List.mem_singleton.mp q ▸ o.w.hL)) z
      rw [o.w.new _ (.tail _ (.head _))] at this; cases this

noncomputable def ifsOf (ifs : List Expr) (env : Env) : Sem Bool := forIn ifs true fun c r => if r = true then do let ok ← isTrue c env (eval c env); pure (ForInStep.yield ok) else pure (ForInStep.yield r)
theorem comp_item {A : Around} {I : Addr} {target elt : Expr} {ifs : List Expr} {testW : TW} {eltW : EW} {K : LW} {i : Nat} {d : D} {v : Value} {tk : Nat} {σ₀ : Sg} {es : List D} {vs : Array Value} (hA : A.handled = none) (e : EnvOk (cF scope F p.Cc)) (o : p.Ok)
    (hlo : p.lo = fun es l σ => compW (fun d K => tgtW (cF scope F p.Cc).cx target d [] K) testW eltW l σ fun es' σ' => K (es ++ es') σ')
    (htest : ∀ ρ σ K s, testW ρ σ K → St C (cF scope F p.Cc) p.hd ρ σ s.heap → wpAny (model C.prog C.w) A (ifsOf ifs (cF scope F p.Cc).env) (PB C (cF scope F p.Cc) p.hd ρ K s) NoE s)
    (helt : ∀ ρ σ Q s, eltW ρ σ Q → St C (cF scope F p.Cc) p.hd ρ σ s.heap → wpAny (model C.prog C.w) A (eval elt (cF scope F p.Cc).env) (PE C (cF scope F p.Cc) p.hd ρ Q s) NoE s)
    (W : It C.toWd A I p.fp p.wr p.hid p.sB.heap p.ds p.S target) (hd : p.ds[i]? = some d) (h : p.lo es (p.ds.drop i) σ₀) (hDl : s'.heap.PlainList p.Dl vs) (hes : RepL C.toWd (hideAll s'.heap p.hd) vs.toList es) (hel : es.length ≤ i) (hel2 : i ≤ 1000)
    (st : St C (cF scope F p.Cc) p.hd [] σ₀ s'.heap) (kp : Keep (p.nw ++ [C.aw]) p.sB.heap s'.heap) (same : s' = { p.sB with heap := s'.heap, toks := s'.toks })
    (hS' : p.S (i + 1) h') (k1 : KeepB p.wr s'.heap h') (r : Rep C.toWd (hideAll h' p.hd) v d) :
    wpAny (model C.prog C.w) A (assign target (cF scope F p.Cc).env v) (fun _ s₂ => wpAny (model C.prog C.w) A (ifsOf ifs (cF scope F p.Cc).env) (fun ok s₃ =>
            if ok = true then wpAny (model C.prog C.w) A (eval elt (cF scope F p.Cc).env) (fun x s₄ =>
              wpAny (model C.prog C.w) A (call (.builtin "list.append") [.ref p.Dl, x]) (fun _ s₅ => ∃ m, m < p.ds.length + 1 - i ∧ CpI p m s₅) NoE s₄) NoE s₃
            else ∃ m, m < p.ds.length + 1 - i ∧ CpI p m s₃) NoE s₂) NoE { s' with heap := h', toks := tk } := by
  have hlt := (List.getElem?_eq_some_iff.mp hd).1
  rw [drop_cons hd, hlo] at h
  have st1 : St C (cF scope F p.Cc) p.hd [] σ₀ h' := st.move (keepWr p.whd k1) (live_all k1 (W.live _ _ hS') st.live) (fun ob x => k1 _ ob o.Cw x) fun ob x => k1 _ ob o.aw x
  refine wpAny_mono (tgt_sound (s := { s' with heap := h', toks := tk }) hA e o.ahd p.Chd o.Ca h r st1) (fun _ s2 q => ?_) fun _ _ x => x
  cases q with | mk ρ1 hbw st2 sp2 =>
  refine wpAny_mono (htest ρ1 σ₀ _ s2 hbw st2) (fun c s3 q => ?_) fun _ _ x => x
  cases q with | mk σ3 hw3 st3 sp3 =>
  have sp : Step C.aw p.Cc { s' with heap := h', toks := tk } s3 := sp2.trans sp3
  have nD : p.Dl ∉ [C.aw, p.Cc] := fun q => by
    rcases List.mem_cons.mp q with q | q
    · exact o.Da q
    · exact o.dc (List.mem_singleton.mp q)
  have toD : ∀ {a b : Shared}, Step C.aw p.Cc a b → Keep [C.aw, p.Cc, p.Dl] a.heap b.heap := fun z => z.keep.mono fun x q => by
    rcases List.mem_cons.mp q with rfl | q
    · exact .head _
    · rw [List.mem_singleton.mp q]; exact .tail _ (.head _)
  have hDl3 : s3.heap.PlainList p.Dl vs := (hDl.at fun ob x => k1 _ ob o.Dw x).at fun ob x => sp.keep _ ob nD x
  have hes3 : RepL C.toWd (hideAll s3.heap p.hd) vs.toList es := hes.keeps fun b ob x => (Step.fz (F := cF scope F p.Cc) sp o.ahd p.Chd) b ob (keepWr p.whd k1 b ob x)
  have same3 : s3 = { p.sB with heap := s3.heap, toks := s3.toks } := by rw [sp.same, same]
  have kp1 := Cp.then kp k1
  cases c with
  | false => exact CpI.next o W hS' hlt kp1 (toD sp) same3 (by rw [hlo]; exact hw3.f rfl) hDl3 hes3 (Nat.le_succ_of_le hel) st3
  | true =>
    refine wpAny_mono (helt ρ1 σ3 _ s3 (hw3.t rfl) st3) (fun x s4 q => ?_) fun _ _ x => x
    cases q with | mk ed σ4 hw4 r4 st4 sp4 =>
    have hDl4 : s4.heap.PlainList p.Dl vs := hDl3.at fun ob x => sp4.keep _ ob nD x
    have hes4 := RepL.keeps hes3 (Step.fz (F := cF scope F p.Cc) sp4 o.ahd p.Chd)
    have hlen := hes.length
    rw [Array.length_toList] at hlen
    refine wpAny_list_append_plain hDl4 (fun h5 hl5 hs5 => ?_) (by rw [sizeLine_eq]; (first | lia | omega))
    have fz5 : (hideAll s4.heap p.hd).StaysIn (hideAll h5 p.hd) := (Keep.sameBut (mu := [p.Dl]) hs5 (.head _)).stays fun y q => by rw [List.mem_singleton.mp q]; exact .tail _ (.head _)
    refine CpI.next (s4 := { s4 with heap := h5 }) (es4 := es ++ [ed]) (vs4 := vs.push x) o W hS' hlt kp1 (((toD sp).trans (toD sp4)).trans (Keep.sameBut hs5 (.tail _ (.tail _ (.head _))))) (by show _ = _; rw [sp4.same, same3]) ?_ hl5 ?_ ?_
      (st4.move fz5 (live_but hs5 (lst_live hl5.isList) st4.live) (fun ob z => (hs5.2 _ (Ne.symm o.dc)).trans z) fun ob z => (hs5.2 _ (Ne.symm o.Da)).trans z)
    · rw [hlo]
      have : (fun es' σ' => K (es ++ (ed :: es')) σ') = fun es' σ' => K (es ++ [ed] ++ es') σ' := by funext es' σ'; rw [List.append_assoc]; rfl
      show compW (fun d K => tgtW (cF scope F p.Cc).cx target d [] K) testW eltW (p.ds.drop (i + 1)) σ4 (fun es' σ' => K (es ++ [ed] ++ es') σ')
      rw [← this]; exact hw4
    · rw [Array.toList_push]; exact (hes4.append (.cons r4 .nil)).keeps fz5
    · rw [List.length_append]; exact Nat.succ_le_succ hel

theorem comp_core {A : Around} {K : LW} {elt target iter : Expr} {ifs : List Expr} {pos : Pos} {testW : TW} {eltW : EW} {it : Value} {s₀ : Shared} {hid : List Addr} {RR : Value → Addr → Result → Shared → Prop}
    (hA : A.handled = none) (e : EnvOk F) (ha : C.aw ∈ hid) (hL : F.L ∈ hid) (hne : C.aw ≠ F.L) (hc : CpOk scope F.cx.kap)
    (htest : ∀ (Cc : Addr) (hid : List Addr) ρ σ K s, C.aw ∈ hid → Cc ∈ hid → C.aw ≠ Cc → testW ρ σ K → St C (cF scope F Cc) hid ρ σ s.heap → wpAny (model C.prog C.w) A (ifsOf ifs (cF scope F Cc).env) (PB C (cF scope F Cc) hid ρ K s) NoE s)
    (helt : ∀ (Cc : Addr) (hid : List Addr) ρ σ Q s, C.aw ∈ hid → Cc ∈ hid → C.aw ≠ Cc → eltW ρ σ Q → St C (cF scope F Cc) hid ρ σ s.heap → wpAny (model C.prog C.w) A (eval elt (cF scope F Cc).env) (PE C (cF scope F Cc) hid ρ Q s) NoE s)
    (h : ItAt C F hid A target ρ (fun ds σ => compW (fun d K => tgtW (cF scope F 0).cx target d [] K) testW eltW ds σ K) s₀ it s)
    (hRR : ∀ (Dl Cc : Addr) s', CpEnd C F hid ρ K s₀ Dl Cc s' → RR (.ref Dl) Cc (.ok .next) s') :
    wpAny (model C.prog C.w) A (newList []) (fun acc s₃ => wpAny (model C.prog C.w) A (newFunctionEnv scope F.env.globals (takes F.env scope.names []) [] F.env.qual none .none (some F.env)) (fun cenv s₄ =>
      codeAny (model C.prog C.w) A (.compStart (.ListComp elt [⟨target, iter, ifs, 0⟩] scope pos) 0 it acc { cenv with scope := relabel scope F.env }) (RR acc cenv.locals) s₄) NoE s₃) NoE s := by
  cases h with | mk ds σ₁ I fp wr S sB e0 hK W hS stB spB gB hwr hfp hfh hdl =>
  subst e0
  refine wpAny_newObj_type (wpAny_newFunctionEnv (fun x hx => (hc.all x.1 x.2 hx).cel) (fun y hy => nomatch hy) (fun h₁ hns₁ hsb₁ => ?_) hc.kind)
  dsimp only at hns₁ hsb₁ ⊢
  generalize hDd : s.heap.objs.size = Dl at *
  generalize hH2 : s.heap.push { cls := .type "list", dict := none, data := .seq ([] : List Value).toArray } = H2 at hns₁ hsb₁ ⊢
  have hCs : H2.objs.size = Dl + 1 := by rw [← hH2, Heap.size_push, hDd]
  generalize hCc : H2.objs.size = Cc at *
  have up : s.heap.StaysIn h₁ := fun b ob x => by
    have hb : b < Dl := hDd ▸ Heap.lt_size x
    refine hsb₁.extBut b ob (by rw [hCs]; exact Nat.ne_of_lt (Nat.lt_succ_of_lt hb)) (Heap.get?_push_of_some _ ?_)
    rw [← hH2]; exact Heap.get?_push_of_some _ x
  have newS : ∀ b, Dl ≤ b → s.heap.get? b = none := fun b hb => Heap.get?_none_of_le (hDd.symm ▸ hb)
  have newB : ∀ b, Dl ≤ b → sB.heap.get? b = none := fun b hb => by
    cases z : sB.heap.get? b with
    | none => rfl
    | some ob => have := gB.stays b ob z; rw [newS b hb] at this; cases this
  have hDC : Dl ≠ Cc := by rw [hCs]; exact (Nat.succ_ne_self _).symm
  have hleC : Dl ≤ Cc := by rw [hCs]; exact Nat.le_succ _
  have liveS := live_stays stB.live gB.stays
  have noh : ∀ b, Dl ≤ b → b ∉ hid := fun b hb q => live_none (newS b hb) (liveS _ q)
  have nofp : ∀ b, Dl ≤ b → b ∉ fp := fun b hb q => live_none (newS b hb) (hfp _ q)
  have hD0 : h₁.PlainList Dl #[] := by
    refine ⟨0, hsb₁.extBut _ _ hDC (Heap.get?_push_of_some _ ?_)⟩
    rw [← hH2, ← hDd]; exact Heap.get?_push_size _ rfl
  let p : Cp C F scope := ⟨hid, wr, fp, Cc, Dl, ds, S, sB, fun es l σ => compW (fun d K => tgtW (cF scope F Cc).cx target d [] K) testW eltW l σ fun es' σ' => K (es ++ es') σ'⟩
  have o : p.Ok := ⟨⟨ha, hL, fun b q => by
    rcases List.mem_cons.mp q with rfl | q
    · exact newB _ hleC
    · rcases List.mem_cons.mp q with rfl | q
      · exact newB _ (Nat.le_refl _)
      · exact hwr b q, fun b q => by
    rcases List.mem_cons.mp q with rfl | q
    · exact noh _ hleC
    · rcases List.mem_cons.mp q with rfl | q
      · exact noh _ (Nat.le_refl _)
      · exact hfh b (W.sub b q)⟩, W.sub, hfh, nofp _ hleC, nofp _ (Nat.le_refl _), hDC, hne⟩
  have kp0 : Keep (p.nw ++ [C.aw]) sB.heap h₁ := .ofStays fun b ob x => up b ob (gB.stays b ob x)
  have live0 : Live p.hd h₁ := fun a q => by
    rcases List.mem_cons.mp q with rfl | q
    · exact ns_live hns₁
    · rcases List.mem_cons.mp q with rfl | q
      · exact lst_live hD0.isList
      · exact live_stays (fun a q => (List.mem_append.mp q).elim (fun q => hfp a (W.sub a q)) fun q => liveS a q) up a q
  have hS1 : S 0 h₁ := W.frame _ _ _ hS fun b _ ob x => up b ob x
  have e' := cEnv_ok (K := Cc) e hc
  have loop : ∀ sx : Shared, sx.heap = h₁ → sx = { sB with heap := sx.heap, toks := sx.toks } → codeAny (model C.prog C.w) A (.compLoop (.ListComp elt [⟨target, iter, ifs, 0⟩] scope pos) 0 (.ref I) (.ref Dl) (cEnv scope F.env Cc)) (RR (.ref Dl) Cc) sx := by
    intro sx hx samex
    refine compLoop_any (CpI p) (fun k s' q => ?_) (ds.length + 1) ?_
    · cases q with | mk i σ es vs hS hi hk hlo hDl hes hel st kp same =>
      subst hk
      have hi1 : i ≤ 1000 := Nat.le_trans hi hdl
      refine wpAny_mono (W.step i s' p.hd hS hi p.whd (o.w.fz (Cp.up kp)) st.live) (fun r s₁ hr => ?_) fun _ _ x => x.elim
      cases r with
      | none =>
        cases hr with | done hi' k1 =>
        have hlo' : K es σ := by
          have hlo : compW _ testW eltW (ds.drop i) σ (fun es' σ' => K (es ++ es') σ') := hlo
          rw [hi', List.drop_length] at hlo
          have hlo : K (es ++ []) σ := hlo
          rwa [List.append_nil] at hlo
        exact hRR _ _ _ (CpI.fin o spB stB hlo' hDl hes (Nat.le_trans hel hi1) st kp same k1)
      | some v =>
        refine wpAny_mono hr (fun _ sx hr => ?_) fun _ _ x => x.elim
        cases hr with | item hd hS' k1 r =>
        exact comp_item hA e' o rfl (fun ρ σ K s a b => htest Cc p.hd ρ σ K s o.ahd p.Chd o.Ca a b) (fun ρ σ K s a b => helt Cc p.hd ρ σ K s o.ahd p.Chd o.Ca a b) W hd hlo hDl hes hel hi1 st kp same hS' k1 r
    · subst hx
      exact ⟨0, σ₁, [], #[], hS1, Nat.zero_le _, rfl, hK, hD0, .nil, Nat.le_refl _, cEnv_st stB hns₁ (o.w.fz (Cp.up kp0)) live0 fun ob x => up _ ob (gB.stays _ ob x), kp0, samex⟩
  exact codeAny_compStart_list (loop _ rfl (by rw [gB.same])) (wpAny_mono (W.self 0 _ _ hS1 (loop _ rfl (by rw [gB.same]))) (fun _ _ x => x) fun _ _ x => x.elim)
end
end Mine.Internal

end
section
open PySem PySem.W PyProof.Rows PySem.Calls
set_option Elab.async false
set_option tactic.hygienic false
set_option genSizeOf false
set_option genInjectivity false
set_option linter.all false
set_option maxRecDepth 100000
set_option backward.match.sparseCases false
set_option bootstrap.genMatcherCode false
namespace Mine.Internal

section
variable {prog : Program} {w : World} {A : Around} {s : Shared} {env : Env}
theorem starEach_one {e : Expr} {r : List Expr} (h : isStar e = false) : starEach (e :: r) env = (false, eval e env) :: starEach r env := by
  cases e <;> first | rfl | cases h
theorem noStar_inv {e : Expr} {r : List Expr} (h : noStar (e :: r) = true) : isStar e = false ∧ noStar r = true := by
  unfold noStar at h
  cases q : isStar e with
  | true => rw [q] at h; cases h
  | false => rw [q] at h; exact ⟨rfl, h⟩
theorem noStar_any {pos : Pos} : ∀ {es : List Expr}, noStar es = true → (backTo pos (starEach es env)).any (·.1) = false
  | [], _ => rfl
  | e :: r, h => by
    rw [starEach_one (noStar_inv h).1]
    exact (Bool.false_or _).trans (noStar_any (noStar_inv h).2)
theorem evalArgs_any {f : Value} {pos : Pos} {es : List Expr} {Q : Args → Shared → Prop} (hs : noStar es = true) (h : wpAny (model prog w) A (spliced (backTo pos (starEach es env))) (fun vs s' => Q ⟨vs, []⟩ s') NoE s) :
    wpAny (model prog w) A (evalArgs f true (backTo pos (starEach es env)) []) Q NoE s := by
  cases es with
  | nil =>
    show wpAny (model prog w) A (evalArgs f true [] []) Q NoE s
    unfold evalArgs
    show wpAny (model prog w) A (spliced [] >>= _) Q NoE s
    refine wpAny_bind (wpAny_mono h (fun vs s' h' => wpAny_bind (wpAny_pure ?_)) fun _ _ x => x)
    refine wpAny_holding ?_
    exact wpAny_bind (wpAny_pure (wpAny_bind (wpAny_pure (wpAny_pure h'))))
  | cons e r =>
    rw [starEach_one (noStar_inv hs).1] at h ⊢
    exact evalArgs_plain h
theorem behind_false {op : CmpOp} {e : Expr} (h : isSetE e = false) : behindInMarks op e = false := by
  cases e <;> first | rfl | cases h
theorem last_false {op op' : CmpOp} {e e' : Expr} (h : isSetE e' = false) : lastMarks [op, op'] [e, e'] = false := behind_false h
theorem folded_pure {e : Expr} (h : isSetE e = false) (x : Value) : foldedSetIterable e env x = pure x := by
  cases e <;> first | rfl | cases h
theorem call_eq {f : Expr} {args : List Expr} {pos : Pos} (h : callOk f = true) : eval (.Call f args [] pos) env = (do callWith pos (← eval f env) [] (backTo pos (starEach args env)) []) := by
  cases f <;> first | rfl | cases h
theorem methForm {args : List Expr} {pos : Pos} (hs : noStar args = true) (hl : args.length ≤ 20) : methodCallForm (args.length + 0) (backTo pos (starEach args env)) [] = true := by
  unfold methodCallForm
  have : (backTo pos (starEach args env)).all (fun x => !x.1) = true := by
    have := noStar_any (env := env) (pos := pos) hs
    rw [List.any_eq_false] at this
    rw [List.all_eq_true]
    intro x hx
    have := this x hx
    simpa using this
  simp [this]
  (first | lia | omega)
noncomputable abbrev methCall (o : Expr) (env : Env) (name : Str) (apos pos : Pos) (args : List Expr) : Sem Value := do
      let ov ← eval o env
      standAt apos.atName
      let (f, first) ← holding [ov] (getMethod ov name (do return (← importBound o env).getD true))
      callWith pos f first (backTo pos (starEach args env)) []
theorem meth_of {o : Expr} {name : Str} {apos : Pos} {args : List Expr} {pos : Pos} (hs : noStar args = true) (hl : args.length ≤ 20) (hp : (apos.endLine == pos.line) = true)
    (e : eval (.Call (.Attribute o name apos) args [] pos) env = (do
      let ov ← eval o env
      standAt apos.atName
      methodCall o name apos pos env ov (args.length + 0) (backTo pos (starEach args env)) [])) (hpos : methodCallPos true o env apos pos = pure pos) :
    eval (.Call (.Attribute o name apos) args [] pos) env = methCall o env name apos pos args := by
  rw [e]
  congr 1
  funext ov
  congr 1
  funext _
  unfold methodCall
  rw [methForm hs hl, hpos]
  rfl
theorem meth_eq {y : Str} {p : Pos} {name : Str} {apos : Pos} {args : List Expr} {pos : Pos} (hs : noStar args = true) (hl : args.length ≤ 20) (hp : (apos.endLine == pos.line) = true) :
    eval (.Call (.Attribute (.Name y p) name apos) args [] pos) env = methCall (.Name y p) env name apos pos args :=
  meth_of hs hl hp rfl (by unfold methodCallPos; simp [hp])
theorem meth_eqL {es : List Expr} {p : Pos} {name : Str} {apos : Pos} {args : List Expr} {pos : Pos} (hs : noStar args = true) (hl : args.length ≤ 20) (hp : (apos.endLine == pos.line) = true) :
    eval (.Call (.Attribute (.List es p) name apos) args [] pos) env = methCall (.List es p) env name apos pos args :=
  meth_of hs hl hp rfl (by unfold methodCallPos; simp [hp])
end

structure Fra (C : Cfg) (F : Fm) (hid : List Addr) (ρ : En) (σ : Sg) (s : Shared) : Prop where
  e : EnvOk F
  ha : C.aw ∈ hid
  hL : F.L ∈ hid
  hne : C.aw ≠ F.L
  st : St C F hid ρ σ s.heap

noncomputable def SndE (C : Cfg) (A : Around) (n : Nat) : Prop := ∀ {F : Fm} {e : Expr} {ρ : En} {σ : Sg} {Q : D → Sg → Prop} {hid : List Addr} {s : Shared}, wpE C.g n F.cx e ρ σ Q → Fra C F hid ρ σ s → wpAny (model C.prog C.w) A (eval e F.env) (PE C F hid ρ Q s) NoE s
inductive PEl (C : Cfg) (F : Fm) (hid : List Addr) (ρ : En) (Q : List D → Sg → Prop) (n : Nat) (s : Shared) (vs : List Value) (s' : Shared) : Prop
  | mk (l : vs.length = n) (p : PEs C F hid ρ Q s vs s')
noncomputable def SndEs (C : Cfg) (A : Around) (n : Nat) : Prop := ∀ {F : Fm} {es : List Expr} {ρ : En} {σ : Sg} {Q : List D → Sg → Prop} {hid : List Addr} {s : Shared} (pos : Pos), wpEs C.g n F.cx es ρ σ Q → noStar es = true → Fra C F hid ρ σ s →
    wpAny (model C.prog C.w) A (spliced (backTo pos (starEach es F.env))) (PEl C F hid ρ Q es.length s) NoE s
noncomputable def SndB (C : Cfg) (A : Around) (n : Nat) : Prop := ∀ {F : Fm} {op : BoolOp} {es : List Expr} {ρ : En} {σ : Sg} {Q : D → Sg → Prop} {hid : List Addr} {s : Shared} (pos : Pos), wpB C.g n F.cx op es ρ σ Q → Fra C F hid ρ σ s →
    wpAny (model C.prog C.w) A (boolOp pos op (evalEach es F.env)) (PE C F hid ρ Q s) NoE s
noncomputable def SndT (C : Cfg) (A : Around) (n : Nat) : Prop := ∀ {F : Fm} {e : Expr} {ρ : En} {σ : Sg} {K : Bool → Sg → Prop} {hid : List Addr} {s : Shared}, wpT C.g n F.cx e ρ σ K → Fra C F hid ρ σ s → wpAny (model C.prog C.w) A (isTrue e F.env (eval e F.env)) (PB C F hid ρ K s) NoE s
noncomputable def SndTs (C : Cfg) (A : Around) (n : Nat) : Prop := ∀ {F : Fm} {op : BoolOp} {es : List Expr} {ρ : En} {σ : Sg} {K : Bool → Sg → Prop} {hid : List Addr} {s : Shared}, wpTs C.g n F.cx op es ρ σ K → Fra C F hid ρ σ s → wpAny (model C.prog C.w) A (allTrue op es F.env) (PB C F hid ρ K s) NoE s
noncomputable def SndIt (C : Cfg) (A : Around) (n : Nat) : Prop := ∀ {F : Fm} {target iter : Expr} {ρ : En} {σ : Sg} {K : List D → Sg → Prop} {hid : List Addr} {s : Shared}, wpIt C.g n F.cx target iter ρ σ K → Fra C F hid ρ σ s →
    wpAny (model C.prog C.w) A (eval iter F.env) (fun xv s₁ => wpAny (model C.prog C.w) A (pyIter xv) (ItAt C F hid A target ρ K s) NoE s₁) NoE s
noncomputable def SndIf (C : Cfg) (A : Around) (n : Nat) : Prop := ∀ {F : Fm} {ifs : List Expr} {ρ : En} {σ : Sg} {K : Bool → Sg → Prop} {hid : List Addr} {s : Shared}, wpIfs C.g n F.cx ifs ρ σ K → Fra C F hid ρ σ s → wpAny (model C.prog C.w) A (ifsOf ifs F.env) (PB C F hid ρ K s) NoE s
structure Snd (C : Cfg) (A : Around) (n : Nat) : Prop where
  e : SndE C A n
  es : SndEs C A n
  b : SndB C A n
  t : SndT C A n
  ts : SndTs C A n
  it : SndIt C A n
  ifs : SndIf C A n

section
variable {C : Cfg} {A : Around} {F : Fm} {hid : List Addr} {ρ : En} {σ σ' : Sg} {s s' s'' : Shared} {Q : D → Sg → Prop} {Z : Value → Shared → Prop} {n : Nat}
theorem Fra.next (f : Fra C F hid ρ σ s) (st : St C F hid ρ σ' s'.heap) : Fra C F hid ρ σ' s' := ⟨f.e, f.ha, f.hL, f.hne, st⟩
theorem Fra.fz (f : Fra C F hid ρ σ s) {a b : Shared} (sp : Step C.aw F.L a b) : (hideAll a.heap hid).StaysIn (hideAll b.heap hid) := sp.fz f.ha f.hL
theorem PE.from {v : Value} (h : PE C F hid ρ Q s' v s'') (sp : Step C.aw F.L s s') : PE C F hid ρ Q s v s'' :=
  match h with | .mk d σ a b c e => .mk d σ a b c (sp.trans e)
theorem PB.from {K : Bool → Sg → Prop} {b : Bool} (h : PB C F hid ρ K s' b s'') (sp : Step C.aw F.L s s') : PB C F hid ρ K s b s'' :=
  match h with | .mk σ a c e => .mk σ a c (sp.trans e)
theorem pe_mono {t : Sem Value} (h : wpAny (model C.prog C.w) A t (PE C F hid ρ Q s') NoE s') (sp : Step C.aw F.L s s') : wpAny (model C.prog C.w) A t (PE C F hid ρ Q s) NoE s' :=
  wpAny_mono h (fun _ _ q => q.from sp) fun _ _ x => x
theorem pb_mono {t : Sem Bool} {K : Bool → Sg → Prop} (h : wpAny (model C.prog C.w) A t (PB C F hid ρ K s') NoE s') (sp : Step C.aw F.L s s') : wpAny (model C.prog C.w) A t (PB C F hid ρ K s) NoE s' :=
  wpAny_mono h (fun _ _ q => q.from sp) fun _ _ x => x
theorem res_mono {t : Sem Value} {K : D → Prop} (h : wpAny (model C.prog C.w) A t (Res C.toWd hid K s') NoE s') (st : St C F hid ρ σ s'.heap) (sp : Step C.aw F.L s s') (hQ : ∀ d, K d → Q d σ) : wpAny (model C.prog C.w) A t (PE C F hid ρ Q s) NoE s' :=
  wpAny_mono h (fun _ _ r => (pe_res st r hQ).from sp) fun _ _ x => x

theorem bindE {t : Sem Value} (h : wpAny (model C.prog C.w) A t (PE C F hid ρ Q s) NoE s)
    (k : ∀ d σ' v s', Q d σ' → Rep C.toWd (hideAll s'.heap hid) v d → St C F hid ρ σ' s'.heap → Step C.aw F.L s s' → Z v s') : wpAny (model C.prog C.w) A t Z NoE s :=
  wpAny_mono h (fun v s' q => match q with | .mk d σ' a b c e => k d σ' v s' a b c e) fun _ _ x => x
theorem bindE2 {P : D → D → Sg → Prop} (S : SndE C A n) {l r : Expr} (f : Fra C F hid ρ σ s) (h : wpE C.g n F.cx l ρ σ fun a σ => wpE C.g n F.cx r ρ σ fun b σ => P a b σ) {Z : Value → Value → Shared → Prop}
    (k : ∀ a b σ' va vb s', P a b σ' → Rep C.toWd (hideAll s'.heap hid) va a → Rep C.toWd (hideAll s'.heap hid) vb b → St C F hid ρ σ' s'.heap → Step C.aw F.L s s' → Z va vb s') :
    wpAny (model C.prog C.w) A (eval l F.env) (fun va s₁ => wpAny (model C.prog C.w) A (eval r F.env) (fun vb s₂ => Z va vb s₂) NoE s₁) NoE s :=
  bindE (S h f) fun a σ1 va s1 h1 ra st1 sp1 => bindE (S h1 (f.next st1)) fun b σ2 vb s2 h2 rb st2 sp2 => k a b σ2 va vb s2 h2 (ra.keeps (f.fz sp2)) rb st2 (sp1.trans sp2)

theorem const_sound {c : Const} {k : Nat} {pos : Pos} (f : Fra C F hid ρ σ s) (h : constW c fun d => Q d σ) : wpAny (model C.prog C.w) A (eval (.Constant c k pos) F.env) (PE C F hid ρ Q s) NoE s := by
  have g1 : Grow s { s with toks := s.toks + 1 } := .toks s _
  cases c <;> first | exact h.elim | skip
  · exact Constant_none ⟨_, σ, h, .none, f.st, .refl s⟩
  · exact Constant_bool ⟨_, σ, h, .bool _, f.st, .refl s⟩
  · exact wpAny_Constant_int ⟨_, σ, h, .int _ _, f.st, g1.step⟩
  · obtain ⟨hl, h⟩ := onlyT_inv h
    exact Constant_str ⟨_, σ, h, .str _ _ (strOk_of hl), f.st, g1.step⟩

theorem tru_sound {a : D} {v : Value} {K : Bool → Sg → Prop} (f : Fra C F hid ρ σ s) (h : truW a fun c => K c σ) (r : Rep C.toWd (hideAll s.heap hid) v a) : wpAny (model C.prog C.w) A (truthy v) (PB C F hid ρ K s) NoE s :=
  wpAny_mono (truW_sound h r) (fun b s' ⟨a, e⟩ => by subst e; exact ⟨σ, a, f.st, .refl _⟩) fun _ _ x => x

theorem cmp_sound {op : CmpOp} {a b : D} {va vb : Value} (hA : AOk A C.g.lvl) (f : Fra C F hid ρ σ s) (h : cmpW op a b fun c => Q (.bool c) σ) (ra : Rep C.toWd (hideAll s.heap hid) va a) (rb : Rep C.toWd (hideAll s.heap hid) vb b) :
    wpAny (model C.prog C.w) A (compareOp op va vb) (PE C F hid ρ Q s) NoE s :=
  wpAny_mono (cmpW_sound hA.eq h ra rb) (fun v s' r => pe_b f.st r fun b k => k) fun _ _ x => x

theorem cmpT_sound {op : CmpOp} {a b : D} {va vb : Value} {K : Bool → Sg → Prop} (hA : AOk A C.g.lvl) (f : Fra C F hid ρ σ s) (sp : Step C.aw F.L s' s) (h : cmpW op a b fun c => K c σ) (ra : Rep C.toWd (hideAll s.heap hid) va a) (rb : Rep C.toWd (hideAll s.heap hid) vb b) :
    wpAny (model C.prog C.w) A (compareOp op va vb) (fun c s₃ => wpAny (model C.prog C.w) A (truthy c) (PB C F hid ρ K s') NoE s₃) NoE s := by
  refine wpAny_mono (cmpW_sound hA.eq h ra rb) (fun v s' r => ?_) fun _ _ x => x
  cases r with | mk b e k gr =>
  subst e
  exact wpAny_truthy_bool ⟨σ, k, f.st.grow gr.stays, sp.trans gr.step⟩

theorem well_live {X : Wd} {h : Heap} (x : WellAt X hid h σ) : (h.get? X.aw).isSome = true := match x with | .mk _ _ hl _ => lst_live hl
set_option tactic.hygienic true in
theorem call_sound {fd : D} {ds : List D} {vf : Value} {vs : List Value} (hA : AOk A C.g.lvl) (f : Fra C F hid ρ σ s) (h : callW C.g fd ds σ Q) (rf : Rep C.toWd (hideAll s.heap hid) vf fd) (rs : RepL C.toWd (hideAll s.heap hid) vs ds) :
    wpAny (model C.prog C.w) A (call vf vs) (PE C F hid ρ Q s) NoE s := by
  cases fd <;> first | exact h.elim | skip
  · cases rf
    refine wpAny_mono (C.calls h hA f.st.base f.ha f.st.live rs f.st.well) (fun v s' q => ?_) fun _ _ x => x
    cases q with | mk d σ' hq r wl sp =>
    refine ⟨d, σ', hq, r, f.st.moveW (sp.keep.stays fun y q => by rw [List.mem_singleton.mp q]; exact f.ha) (fun a q => ?_) (fun o x => sp.keep F.L o (fun q => f.hne (List.mem_singleton.mp q).symm) x) wl, sp.step⟩
    by_cases qa : a = C.aw
    · subst qa; exact well_live wl
    · exact live_keep (wr := [C.aw]) sp.keep (fun q => qa (List.mem_singleton.mp q)) (f.st.live a q)
  · rename_i b
    cases rf
    exact wpAny_mono (biW_sound (show biW b ds fun d => Q d σ from h) rs f.st.live) (fun v s' r => pe_res f.st r fun d k => k) fun _ _ x => x

noncomputable def isFnD : D → Bool
  | .fn _ => true
  | .bi _ => true
  | _ => false
set_option tactic.hygienic true in
theorem callWith_any {pos : Pos} {fd : D} {vf : Value} {args : List Expr} (hfn : isFnD fd = true) (f : Fra C F hid ρ σ s) (rf : Rep C.toWd (hideAll s.heap hid) vf fd) (hs : noStar args = true)
    (h : wpAny (model C.prog C.w) A (spliced (backTo pos (starEach args F.env))) (fun vs s' => Step C.aw F.L s s' ∧ wpAny (model C.prog C.w) A (call vf vs) Z NoE s') NoE s) :
    wpAny (model C.prog C.w) A (callWith pos vf [] (backTo pos (starEach args F.env)) []) Z NoE s := by
  cases fd <;> first | (cases hfn; done) | skip
  · cases rf with | fn h1 h2 =>
    exact callWith_function (evalArgs_any hs (wpAny_mono h (fun vs s' q => ⟨⟨of_hideAll _ (f.fz q.1 _ _ h1), h2⟩, q.2⟩) fun _ _ x => x))
  · rename_i b
    cases rf
    have h' : wpAny (model C.prog C.w) A (spliced (backTo pos (starEach args F.env))) (fun vs s' => wpAny (model C.prog C.w) A (call b.val vs) Z NoE s') NoE s := wpAny_mono h (fun vs s' q => q.2) fun _ _ x => x
    cases b <;> first
      | exact callWith_builtin (noStar_any hs) (evalArgs_any hs h')
      | exact PyProof.Rows.callWith_type (noStar_any hs) (evalArgs_any hs h')
end
section
variable {prog : Program} {w : World} {A : Around} {s : Shared}
theorem gm_bits {x : Int} {t : Tok} {pl : Sem Bool} {Z : Value × List Value → Shared → Prop} (hz : Z (.builtin "int.bit_length", [.int x t]) s) : wpAny (model prog w) A (getMethod (.int x t) "bit_length" pl) Z NoE s := by
  refine getMethod_builtin (T := "int") (name := "bit_length") (id := "int.bit_length") ?_ ?_ ?_ ?_ ?_ hz
  · exact typeIs_int s x t
  · exact PySem.F.plainAttrs_int
  · exact PySem.F.slot_int_bit_length
  · exact PySem.F.type_int_bit_length
  · intro a e; cases e
theorem call_bits {x : Int} {t : Tok} {Z : Value → Shared → Prop} (hz : Z (.int (((Builtin.Int.intBits x : Nat) : Int)) s.toks) { s with toks := s.toks + 1 }) : wpAny (model prog w) A (call (.builtin "int.bit_length") [.int x t]) Z NoE s := by
  refine call_gives (T := "int") (name := "bit_length") (id := "int.bit_length") ?_ ?_ PySem.F.entry_int_bit_length (PySem.F.args_int_bit_length_1 _) (PySem.AutoIntG2.int_bit_length_int_0 x t) hz
  · exact PySem.F.slot_int_bit_length
  · exact typeIs_int _ x t
end
section
variable {C : Cfg} {A : Around} {F : Fm} {hid : List Addr} {ρ : En} {σ σ' : Sg} {s s' s'' : Shared} {Q : D → Sg → Prop} {n : Nat}
set_option tactic.hygienic true in
theorem methW_sound {o : D} {name : Str} {vo : Value} {args : List Expr} {pos : Pos} {pl : Sem Bool} (hA : AOk A C.g.lvl) (f : Fra C F hid ρ σ s) (hs : noStar args = true) (ro : Rep C.toWd (hideAll s.heap hid) vo o)
    (h : wpAny (model C.prog C.w) A (spliced (backTo pos (starEach args F.env))) (PEl C F hid ρ (fun ds σ => methW o name ds fun d => Q d σ) args.length s) NoE s) (hm : methOk o name = true) :
    wpAny (model C.prog C.w) A (getMethod vo name pl) (fun fx s₂ => wpAny (model C.prog C.w) A (callWith pos fx.1 fx.2 (backTo pos (starEach args F.env)) []) (PE C F hid ρ Q s) NoE s₂) NoE s := by
  cases o <;> first | (cases hm; done) | skip
  · rename_i x
    cases ro with | int t =>
    have e := seqb_iff.mp hm
    rw [sBitLength_is] at e
    subst e
    refine gm_bits (callWith_builtin (noStar_any hs) (evalArgs_any hs (wpAny_mono h (fun vs s' q => ?_) fun _ _ x => x)))
    cases q with | mk _ q =>
    cases q with | mk ds σ' hm r st sp =>
    obtain ⟨rfl, hk⟩ := nil1_inv (show nil1 ds _ from hm)
    cases r
    exact call_bits ⟨_, σ', (onlyT_inv hk).2, .int _ _, st.grow (fun _ _ e => e), sp.trans (Grow.toks _ _).step⟩
  · refine C.getm f.st.base ro hm ?_
    obtain ⟨ofn, fd, hfn, hfd⟩ := C.fsfn f.st.base
    refine callWith_function (o := ofn) (fd := fd) (evalArgs_any hs (wpAny_mono h (fun vs s' q => ?_) fun _ _ x => x))
    cases q with | mk _ q =>
    cases q with | mk ds σ' hm r st sp =>
    refine ⟨⟨of_hideAll _ (f.fz sp _ _ hfn), hfd⟩, ?_⟩
    cases one1_inv (show one1 ds _ from hm) with | mk hm' =>
    cases r with | cons r1 r2 =>
    cases r2
    exact res_mono (C.shp (hA.mono C.l2) st.base st.live (ro.keeps (f.fz sp)) r1 (onlyT_inv hm').2) st sp fun d k => k
end
end Mine.Internal

end
section
open PySem PySem.W PyProof.Rows PySem.Calls Builtin
set_option Elab.async false
set_option tactic.hygienic false
set_option genSizeOf false
set_option genInjectivity false
set_option linter.all false
set_option maxRecDepth 100000
set_option bootstrap.genMatcherCode false
set_option backward.match.sparseCases false
namespace Mine.Internal
section
variable {C : Cfg} {A : Around} {F : Fm} {hid : List Addr} {ρ : En} {σ σ' : Sg} {s s' s'' : Shared} {Q : D → Sg → Prop} {n : Nat}
theorem snd_es (S : Snd C A n) : SndEs C A (n + 1) := fun {F es ρ σ Q hid s} pos h hs f => by
  cases es with
  | nil => exact wpAny_pure ⟨rfl, [], σ, h, .nil, f.st, .refl s⟩
  | cons e r =>
    obtain ⟨he, hr⟩ := noStar_inv hs
    rw [starEach_one he]
    show wpAny (model C.prog C.w) A (spliced ((false, if false = true then _ else eval e F.env) :: backTo pos (starEach r F.env))) _ _ _
    refine spliced_cons ?_
    simp only [Bool.false_eq_true, if_false]
    refine bindE (S.e (show wpE C.g n F.cx e ρ σ fun d σ => wpEs C.g n F.cx r ρ σ fun ds σ => Q (d :: ds) σ from h) f) fun d σ' v s' hq rv st sp => ?_
    refine wpAny_mono (S.es pos hq hr (f.next st)) (fun vs s2 q => ?_) fun _ _ x => x
    cases q with | mk hl q =>
    cases q with | mk ds σ2 a b c e2 =>
    exact ⟨congrArg (· + 1) hl, d :: ds, σ2, a, .cons (rv.keeps (f.fz e2)) b, c, sp.trans e2⟩

set_option backward.match.sparseCases true in
theorem snd_b (S : Snd C A n) : SndB C A (n + 1) := fun {F op es ρ σ Q hid s} pos h f => by
  cases es with
  | nil => exact False.elim h
  | cons e r =>
    cases r with
    | nil => exact S.e (show wpE C.g n F.cx e ρ σ Q from h) f
    | cons e' r =>
      have h' : wpE C.g n F.cx e ρ σ fun v σ => truW v fun c => match (generalizing := false) op with
        | .And => WIf c (wpB C.g n F.cx op (e' :: r) ρ σ Q) (Q v σ)
        | .Or => WIf c (Q v σ) (wpB C.g n F.cx op (e' :: r) ρ σ Q) := h
      show wpAny (model C.prog C.w) A (do
        let v ← eval e F.env
        standAt pos
        let t ← holding [v] (truthy v)
        match op, t with
        | .And, false | .Or, true => pure v
        | _, _ => boolOp pos op (evalEach (e' :: r) F.env)) _ _ s
      refine wpAny_bind (bindE (S.e h' f) fun d σ' v s' hq rv st sp => ?_)
      refine wpAny_bind (wpAny_standAt (wpAny_bind (wpAny_holding (wpAny_mono (truW_sound hq rv) (fun c s2 q => ?_) fun _ _ x => x))))
      obtain ⟨hc, rfl⟩ := q
      have f2 := f.next st
      cases op <;> cases c
      · exact wpAny_pure ⟨d, σ', hc.f rfl, rv, st, sp⟩
      · exact pe_mono (S.b pos (hc.t rfl) f2) sp
      · exact pe_mono (S.b pos (hc.f rfl) f2) sp
      · exact wpAny_pure ⟨d, σ', hc.t rfl, rv, st, sp⟩

set_option backward.match.sparseCases true in
theorem snd_ts (S : Snd C A n) : SndTs C A (n + 1) := fun {F op es ρ σ K hid s} h f => by
  cases es with
  | nil => exact wpAny_pure ⟨σ, h, f.st, .refl s⟩
  | cons e r =>
    have h' : wpT C.g n F.cx e ρ σ fun c σ => match (generalizing := false) op with
      | .And => WIf c (wpTs C.g n F.cx op r ρ σ K) (K false σ)
      | .Or => WIf c (K true σ) (wpTs C.g n F.cx op r ρ σ K) := h
    show wpAny (model C.prog C.w) A (do
      match op, ← isTrue e F.env (eval e F.env) with
      | .And, false => pure false
      | .Or, true => pure true
      | _, _ => allTrue op r F.env) _ _ s
    refine wpAny_bind (wpAny_mono (S.t h' f) (fun c s2 q => ?_) fun _ _ x => x)
    cases q with | mk σ' hc st sp =>
    have f2 := f.next st
    cases op <;> cases c
    · exact wpAny_pure ⟨σ', hc.f rfl, st, sp⟩
    · exact pb_mono (S.ts (hc.t rfl) f2) sp
    · exact pb_mono (S.ts (hc.f rfl) f2) sp
    · exact wpAny_pure ⟨σ', hc.t rfl, st, sp⟩

theorem snd_ifs (S : Snd C A n) : SndIf C A (n + 1) := fun {F ifs ρ σ K hid s} h f => by
  cases ifs with
  | nil => exact wpAny_pure ⟨σ, h, f.st, .refl _⟩
  | cons t r =>
    obtain ⟨rfl, h⟩ := nil1_inv (show nil1 r (wpT C.g n F.cx t ρ σ K) from h)
    unfold ifsOf
    rw [List.forIn_cons]
    simp only [if_true, bind_assoc, pure_bind]
    exact wpAny_bind (wpAny_mono (S.t h f) (fun c s2 q => wpAny_pure q) fun _ _ x => x)

theorem plain_shape {e : Expr} {env : Env} (hp : plainTest e = true) (whole : Sem Value) : isTrue e env whole = (do let v ← whole; standAt e.pos; holding [v] (truthy v)) := by
  cases e <;> first | rfl | cases hp
theorem t_plain (S : Snd C A n) {e : Expr} {K : Bool → Sg → Prop} (h : onlyT (plainTest e) (wpE C.g n F.cx e ρ σ fun v σ => truW v fun c => K c σ)) (f : Fra C F hid ρ σ s) : wpAny (model C.prog C.w) A (isTrue e F.env (eval e F.env)) (PB C F hid ρ K s) NoE s := by
  obtain ⟨hp, h⟩ := onlyT_inv h
  exact isTrue_plain (bindE (S.e h f) fun a σ1 va s1 h1 ra st1 sp1 => pb_mono (tru_sound (f.next st1) h1 ra) sp1) (plain_shape hp _)
theorem t_one (hA : AOk A C.g.lvl) (S : Snd C A n) {l r : Expr} {op : CmpOp} {pos : Pos} {K : Bool → Sg → Prop} (hr : isSetE r = false) (h : wpE C.g n F.cx l ρ σ fun a σ => wpE C.g n F.cx r ρ σ fun b σ => cmpW op a b fun c => K c σ) (f : Fra C F hid ρ σ s) :
    wpAny (model C.prog C.w) A (isTrue (.Compare l [op] [r] pos) F.env (eval (.Compare l [op] [r] pos) F.env)) (PB C F hid ρ K s) NoE s := by
  show wpAny (model C.prog C.w) A (do testChain pos (← eval l F.env) [op] (markedEach [op] [r] [eval r F.env])) _ _ s
  rw [markedEach_of_false _ _ _ (show lastMarks [op] [r] = false from behind_false hr)]
  refine wpAny_bind (bindE (S.e h f) fun a σ1 va s1 h1 ra st1 sp1 => ?_)
  exact test_last (bindE (S.e h1 (f.next st1)) fun b σ2 vb s2 h2 rb st2 sp2 => cmpT_sound hA (f.next st2) (sp1.trans sp2) h2 (ra.keeps (f.fz sp2)) rb)
theorem t_two (hA : AOk A C.g.lvl) (S : Snd C A n) {l r r' : Expr} {op op' : CmpOp} {pos : Pos} {K : Bool → Sg → Prop} (hr : isSetE r' = false) (h : wpE C.g n F.cx l ρ σ fun a σ => wpE C.g n F.cx r ρ σ fun b σ => cmpW op a b fun c =>
      WIf c (wpE C.g n F.cx r' ρ σ fun b' σ => cmpW op' b b' fun c => K c σ) (K false σ)) (f : Fra C F hid ρ σ s) :
    wpAny (model C.prog C.w) A (isTrue (.Compare l [op, op'] [r, r'] pos) F.env (eval (.Compare l [op, op'] [r, r'] pos) F.env)) (PB C F hid ρ K s) NoE s := by
  refine isTrue_chain ?_ (last_false hr)
  refine bindE (S.e h f) fun a σ1 va s1 h1 ra st1 sp1 => ?_
  refine test_link (bindE (S.e h1 (f.next st1)) fun b σ2 vb s2 h2 rb st2 sp2 => ?_)
  have f2 := f.next st2
  refine wpAny_mono (cmpT_sound (K := fun c σ => WIf c (wpE C.g n F.cx r' ρ σ fun b' σ => cmpW op' b b' fun c => K c σ) (K false σ)) hA f2 (.refl _) h2 (ra.keeps (f.fz sp2)) rb) (fun c s3 q => ?_) fun _ _ x => x
  refine wpAny_mono q (fun t s4 q => ?_) fun _ _ x => x
  cases q with | mk σ4 h4 st4 sp4 =>
  have sp := (sp1.trans sp2).trans sp4
  cases t with
  | false => exact ⟨σ4, h4.f rfl, st4, sp⟩
  | true =>
    exact test_last (bindE (S.e (h4.t rfl) (f.next st4)) fun b' σ5 vb' s5 h5 rb' st5 sp5 => cmpT_sound hA (f.next st5) (sp.trans sp5) h5 (rb.keeps fun x o e => f.fz sp5 x o (f.fz sp4 x o e)) rb')
theorem notSet {e : Expr} {P : Prop} (h : match isSetE e with | true => False | false => P) : isSetE e = false ∧ P := by
  cases q : isSetE e with
  | true => rw [q] at h; exact h.elim
  | false => rw [q] at h; exact ⟨rfl, h⟩
theorem snd_t (hA : AOk A C.g.lvl) (S : Snd C A n) : SndT C A (n + 1) := fun {F e ρ σ K hid s} h f => by
  cases e with
  | UnaryOp op x pos =>
    cases op <;> first | exact False.elim h | exact isTrue_not (wpAny_mono (S.t (show wpT C.g n F.cx x ρ σ fun c σ => K (!c) σ from h) f) (fun c s2 q => match q with | .mk σ a b c => ⟨σ, a, b, c⟩) fun _ _ x => x)
  | BoolOp op vs pos => exact S.ts (show wpTs C.g n F.cx op vs ρ σ K from h) f
  | Compare l ops rs pos =>
    cases ops with
    | nil => exact False.elim h
    | cons op ops =>
      cases rs with
      | nil => exact False.elim h
      | cons r rs =>
        cases ops with
        | nil =>
          obtain ⟨rfl, h⟩ := nil1_inv (show nil1 rs _ from h)
          obtain ⟨hr, h⟩ := notSet h
          exact t_one hA S hr h f
        | cons op' ops =>
          obtain ⟨rfl, h⟩ := nil1_inv (show nil1 ops _ from h)
          cases one1_inv h with | mk h =>
          obtain ⟨hr, h⟩ := notSet h
          exact t_two hA S hr h f
  | _ => first | exact t_plain S h f | exact False.elim h

theorem nameB_nameW {g : Gx} {cx : Cx} {x : Str} {b : Bi} (h : nameB g cx ρ x = some b) : nameW g cx ρ x fun d => d = .bi b := by
  unfold nameB at h
  unfold nameW
  cases h1 : lk x ρ with
  | some d => rw [h1] at h; cases h
  | none =>
    rw [h1] at h
    dsimp only at h ⊢
    cases h2 : lk x cx.kap with
    | some d => rw [h2] at h; cases h
    | none =>
      rw [h2] at h
      dsimp only at h ⊢
      cases h3 : lk x cx.kinds with
      | none => rw [h3] at h; cases h
      | some k =>
        rw [h3] at h
        cases k <;> first | cases h | skip
        dsimp only at h ⊢
        cases h4 : gfind x g.G with
        | none => rw [h4] at h; cases h
        | some d =>
          rw [h4] at h
          dsimp only at h ⊢
          cases d <;> first | cases h | skip
          rfl
theorem arg1 (S : Snd C A n) {pos : Pos} {a : Expr} {Z : List Value → Shared → Prop} (ha : isStar a = false) (f : Fra C F hid ρ σ s) (h : wpE C.g n F.cx a ρ σ Q)
    (k : ∀ d σ' v s', Q d σ' → Rep C.toWd (hideAll s'.heap hid) v d → St C F hid ρ σ' s'.heap → Step C.aw F.L s s' → Z [v] s') : wpAny (model C.prog C.w) A (spliced (backTo pos (starEach [a] F.env))) Z NoE s := by
  rw [starEach_one ha]
  show wpAny (model C.prog C.w) A (spliced ((false, if false = true then _ else eval a F.env) :: [])) _ _ _
  refine spliced_cons ?_
  simp only [Bool.false_eq_true, if_false]
  exact bindE (S.e h f) fun d σ' v s' hq rv st sp => wpAny_pure (k d σ' v s' hq rv st sp)
theorem it_call (hA : AOk A C.g.lvl) (S : Snd C A n) {target a : Expr} {x : Str} {p pos : Pos} {b : Bi} {K : List D → Sg → Prop} (hs : isStar a = false) (hb : nameB C.g F.cx ρ x = some b)
    (h : wpE C.g n F.cx a ρ σ fun d σ => (match (generalizing := false) b with
          | .range => intW d fun k => (0 ≤ k ∧ k ≤ 1000) ∧ K (rangeD k.toNat) σ
          | .enum => onlyT (isTupE target) (lstW d fun l => K (enumD 0 l) σ)
          | _ => False)) (f : Fra C F hid ρ σ s) :
    wpAny (model C.prog C.w) A (eval (.Call (.Name x p) [a] [] pos) F.env) (fun xv s₁ => wpAny (model C.prog C.w) A (pyIter xv) (ItAt C F hid A target ρ K s) NoE s₁) NoE s := by
  rw [call_eq rfl]
  refine wpAny_bind (bindE (name_sound (Q := fun d σ' => d = .bi b ∧ σ' = σ) f.e f.st (nameB_nameW hb) fun d e => ⟨e, rfl⟩) fun d σ' v s' hq rv st sp => ?_)
  obtain ⟨rfl, rfl⟩ := hq
  have hns : noStar [a] = true := by unfold noStar; rw [hs]; rfl
  refine callWith_any rfl (f.next st) rv hns (arg1 S hs (f.next st) h fun d σ2 v2 s2 h2 r2 st2 sp2 => ⟨sp2, ?_⟩)
  cases rv
  cases b <;> first | exact False.elim h2 | skip
  · cases intW_inv h2 with | mk h2 =>
    cases r2
    exact range_it hA.handled st2 (sp.trans sp2) h2.1 h2.2
  · obtain ⟨ht, h2⟩ := onlyT_inv h2
    cases lstW_inv h2 with | mk h2' =>
    cases target <;> first | (cases ht; done) | skip
    exact enum_it hA.handled r2 st2 (sp.trans sp2) h2'
theorem callE {e : Expr} (h : isCallE e = true) : ∃ f args kws pos, e = .Call f args kws pos := by
  cases e <;> first | exact ⟨_, _, _, _, rfl⟩ | cases h
theorem notStar {e : Expr} {P : Prop} (h : match isStar e with | true => False | false => P) : isStar e = false ∧ P := by
  cases q : isStar e with
  | true => rw [q] at h; exact h.elim
  | false => rw [q] at h; exact ⟨rfl, h⟩
theorem snd_it (hA : AOk A C.g.lvl) (S : Snd C A n) : SndIt C A (n + 1) := fun {F target iter ρ σ K hid s} h f => by
  cases hc : isCallE iter with
  | true =>
    obtain ⟨fe, args, kws, pos, rfl⟩ := callE hc
    obtain ⟨x, p, rfl, h⟩ := nmW_inv (show nmW fe _ from h)
    obtain ⟨rfl, h⟩ := nil1_inv h
    cases one1_inv h with | mk h =>
    obtain ⟨hs, h⟩ := notStar h
    obtain ⟨b, hb, h⟩ := someW_inv h
    exact it_call hA S hs hb h f
  | false =>
    have h : stepIt C.g (WR C.g n) F.cx target iter ρ σ K := h
    unfold stepIt at h
    rw [hc] at h
    obtain ⟨_, h⟩ := notSet h
    exact bindE (S.e h f) fun d σ' v s' hq rv st sp => items_it hA.handled rv st sp hq
theorem wpIt_set {target iter : Expr} {K : List D → Sg → Prop} (h : wpIt C.g n F.cx target iter ρ σ K) : isSetE iter = false := by
  cases n with
  | zero => exact False.elim h
  | succ n =>
    cases hc : isCallE iter with
    | true => obtain ⟨fe, args, kws, pos, rfl⟩ := callE hc; rfl
    | false =>
      have h : stepIt C.g (WR C.g n) F.cx target iter ρ σ K := h
      unfold stepIt at h
      rw [hc] at h
      exact (notSet h).1

theorem e_comp (hA : AOk A C.g.lvl) (S : Snd C A n) {elt target iter : Expr} {ifs : List Expr} {scope : Scope} {pos : Pos} (hc : compOk scope F.cx.kap = true)
    (h : wpIt C.g n F.cx target iter ρ σ fun ds σ => compW (fun d K => tgtW ⟨scope.names, capK scope.names F.cx.kap⟩ target d [] K) (fun ρ σ K => wpIfs C.g n ⟨scope.names, capK scope.names F.cx.kap⟩ ifs ρ σ K)
          (fun ρ σ K => wpE C.g n ⟨scope.names, capK scope.names F.cx.kap⟩ elt ρ σ K) ds σ fun es σ => Q (.lst es) σ) (f : Fra C F hid ρ σ s) {use : Option (Value → Sem Unit)} {Z : Value → Shared → Prop}
    (hRR : ∀ (Dl Cc : Addr) s', CpEnd C F hid ρ (fun es σ => Q (.lst es) σ) s Dl Cc s' → compPost (model C.prog C.w) A NoE use Z (.ref Dl) Cc (.ok .next) s') :
    wpAny (model C.prog C.w) A (comprehension (.ListComp elt [⟨target, iter, ifs, 0⟩] scope pos) scope F.env (firstIterPos [⟨target, iter, ifs, 0⟩] pos) (newList []) false (eval iter F.env) use) Z NoE s := by
  have hk := compOk_inv hc
  refine wpAny_comprehension_free rfl (fun x => folded_pure (wpIt_set h) x) (closureFor_takes (compOk_cells hk f.st)) hk.kind (fun x hx hl => ?_) ?_
  · rw [← lk_lookup]; exact (hk.all x.1 x.2 hx).loc hl
  refine wpAny_mono (S.it h f) (fun xv s₁ h₁ => wpAny_mono h₁ (fun it s₂ h₂ => ?_) fun _ _ x => x) fun _ _ x => x
  exact comp_core (K := fun es σ => Q (.lst es) σ) hA.handled f.e f.ha f.hL f.hne hk (fun Cc hid' ρ' σ' K s' ha hC hne ht st => S.ifs ht ⟨cEnv_ok f.e hk, ha, hC, hne, st⟩)
    (fun Cc hid' ρ' σ' K s' ha hC hne ht st => S.e ht ⟨cEnv_ok f.e hk, ha, hC, hne, st⟩) h₂ hRR
theorem compEndS {ρ1 : En} {Cc : Addr} {h' : Heap} (live : Live hid s.heap) (st : St C F (Cc :: hid) ρ1 σ' s'.heap) (sp : Step C.aw F.L s s') (h1 : Cc ≠ F.L) (h2 : Cc ≠ C.aw) (hn : s.heap.get? Cc = none) (hs : Heap.SameBut Cc s'.heap h') :
    St C F hid ρ1 σ' h' ∧ Step C.aw F.L s { s' with heap := h' } ∧ (hideAll s'.heap (Cc :: hid)).StaysIn (hideAll h' hid) := by
  have fz : (hideAll s'.heap (Cc :: hid)).StaysIn (hideAll h' hid) := fun b o x =>
    hideAll_get _ ((hs.2 b fun q => not_hid x (q ▸ .head _)).trans (of_hideAll _ x)) fun q => not_hid x (.tail _ q)
  have kp : ∀ b, b ≠ Cc → ∀ o, s'.heap.get? b = some o → h'.get? b = some o := fun b q o x => (hs.2 b q).trans x
  refine ⟨st.move fz (fun a q => ?_) (kp F.L (Ne.symm h1)) (kp C.aw (Ne.symm h2)), ⟨fun b o n x => kp b (fun e => by subst e; rw [hn] at x; cases x) o (sp.keep b o n x), by rw [sp.same]⟩, fz⟩
  have hne : a ≠ Cc := fun e => by subst e; exact live_none hn (live _ q)
  rw [hs.2 a hne]; exact st.live a (.tail _ q)
theorem e_compE (hA : AOk A C.g.lvl) (S : Snd C A n) {elt : Expr} {gens : List Comprehension} {scope : Scope} {pos : Pos} (h : wpE C.g (n + 1) F.cx (.ListComp elt gens scope pos) ρ σ Q) (f : Fra C F hid ρ σ s) :
    wpAny (model C.prog C.w) A (eval (.ListComp elt gens scope pos) F.env) (PE C F hid ρ Q s) NoE s := by
  cases one1_inv (show one1 gens _ from h) with | @mk c h' =>
  obtain ⟨target, iter, ifs, a⟩ := c
  cases natW_inv h' with | @mk k h'' =>
  cases k with
  | succ k => exact False.elim h''
  | zero =>
    obtain ⟨hc, h⟩ := onlyT_inv h''
    show wpAny (model C.prog C.w) A (comprehension _ _ F.env _ (newList []) false _) _ _ _
    refine e_comp hA S hc h f fun Dl Cc s' q => ?_
    cases q with | mk es σ' hq st r sp m hm h1 h2 hn _ _ =>
    refine ⟨m, hm, fun h' hs => ?_⟩
    obtain ⟨a, b, c⟩ := compEndS f.st.live st sp h1 h2 hn hs
    exact ⟨.lst es, σ', hq, r.keeps c, a, b⟩
end
end Mine.Internal

end
section
open PySem PySem.W PyProof.Rows PySem.Calls Builtin
set_option Elab.async false
set_option tactic.hygienic false
set_option genSizeOf false
set_option genInjectivity false
set_option linter.all false
set_option maxRecDepth 100000
set_option backward.match.sparseCases false
set_option bootstrap.genMatcherCode false
namespace Mine.Internal
theorem noFill_tuple_mul : fillsNumberSlot (.type "tuple") "mul" = pure false :=
  PySem.fillsNumberSlot_seq (id := "tuple.__mul__") (r := some (.builtin "tuple.__rmul__")) PySem.F.slot_tuple_mul.lookup (by decide +kernel) PySem.F.slot_tuple_rmul.lookup (by decide +kernel)
theorem repeat_tuple : seqRepeat? (.type "tuple") = pure (some (.builtin "tuple.__mul__")) := by
  unfold seqRepeat?
  rw [PySem.seqSlot_of (T := "tuple") (name := "__mul__") (id := "tuple.__mul__") PySem.F.slot_tuple_mul.lookup (by decide +kernel), PySem.seqSlot_of (T := "tuple") (name := "__rmul__") (id := "tuple.__rmul__") PySem.F.slot_tuple_rmul.lookup (by decide +kernel)]
  rfl
theorem int_rmul_tuple (a : Int) (t : Tok) (l : Addr) (items : Array Value) (n : Nat) :
    Meets (Builtin.«int.__rmul__» ⟨[.int a t, .ref l], []⟩) (fun _ R s => s.heap.get? l = some { cls := .type "tuple", dict := none, data := .seq items n, slots := #[] } ∧ R (.ok (.ret Value.notImplemented)) s) :=
  .of_wp fun prog w A R s h => by obtain ⟨hp, g, d, tk, os⟩ := s; obtain ⟨hl, h⟩ := h; wp_walk; exact ⟨_, rfl, h⟩
theorem tuple_mul_two (l : Addr) (v : Value) (n : Nat) (u : Tok) :
    Meets (Builtin.«tuple.__mul__» ⟨[.ref l, .int 2 u], []⟩) (fun _ R s => s.heap.get? l = some { cls := .type "tuple", dict := none, data := .seq #[v] n, slots := #[] } ∧ R (.ok (.ret (Value.ref s.heap.objs.size))) { s with heap := s.heap.push { cls := .type "tuple", data := .seq #[v, v] } }) :=
  .of_wp fun prog w A R s h => by
    obtain ⟨hp, g, d, tk, os⟩ := s; obtain ⟨hl, h⟩ := h
    unfold Builtin.«tuple.__mul__»
    wp_walk
    exact ⟨_, rfl, h⟩
section
variable {prog : Program} {w : World} {A : Around} {E : Value → Shared → Prop} {s : Shared}
theorem mul_tuple_two {l : Addr} {v : Value} {k : Nat} {u : Tok} {Q : Value → Shared → Prop}
    (hl : s.heap.get? l = some { cls := .type "tuple", dict := none, data := .seq #[v] k, slots := #[] })
    (h : Q (.ref s.heap.objs.size) { s with heap := s.heap.push { cls := .type "tuple", data := .seq #[v, v] } }) :
    wpAny (model prog w) A (binaryOp .Mult (.ref l) (.int 2 u)) Q E s :=
  wpAny_binaryOp_repeat_ref (T := "tuple") (U := "int") (by decide) ⟨_, hl, rfl⟩ (fun s' => typeIs_int s' 2 u) noFill_tuple_mul PySem.F.fills_int_mul PySem.F.slot_int_rmul repeat_tuple PySem.F.slot_int_index.lookup
    (call_meets PySem.F.slot_int_rmul (typeIs_int s 2 u) PySem.F.entry_int_rmul (PySem.F.args_int_rmul_2 _ _) (int_rmul_tuple 2 u l _ k)
      ⟨hl, rfl, ⟨_, hl, rfl⟩, call_meets PySem.F.slot_tuple_mul ⟨_, hl, rfl⟩ PySem.F.entry_tuple_mul (PySem.F.args_tuple_mul_2 _ _)
        (tuple_mul_two l v k u) ⟨hl, h⟩⟩)
theorem gm_index {l : Addr} {vs : Array Value} {k : Nat} {pl : Sem Bool} {Z : Value × List Value → Shared → Prop} (hl : s.heap.get? l = some { cls := .type "list", dict := none, data := .seq vs k, slots := #[] }) (hz : Z (.builtin "list.index", [.ref l]) s) :
    wpAny (model prog w) A (getMethod (.ref l) "index" pl) Z NoE s := by
  refine getMethod_builtin (T := "list") (name := "index") (id := "list.index") ?_ ?_ ?_ ?_ ?_ hz
  · exact ⟨_, hl, rfl⟩
  · exact PySem.F.plainAttrs_list
  · exact PySem.F.slot_list_index
  · exact PySem.F.type_list_index
  · intro a e; cases e; exact ⟨_, hl, rfl⟩
end

section
variable {C : Cfg} {A : Around} {F : Fm} {hid : List Addr} {ρ : En} {σ σ' : Sg} {s s' s'' : Shared} {Q : D → Sg → Prop} {n : Nat}

theorem e_call (hA : AOk A C.g.lvl) (S : Snd C A n) {fe : Expr} {args : List Expr} {pos : Pos} (hf : callOk fe = true) (hs : noStar args = true)
    (h : wpE C.g n F.cx fe ρ σ fun a σ => wpEs C.g n F.cx args ρ σ fun ds σ => callW C.g a ds σ Q) (f : Fra C F hid ρ σ s) :
    wpAny (model C.prog C.w) A (eval (.Call fe args [] pos) F.env) (PE C F hid ρ Q s) NoE s := by
  rw [call_eq hf]
  refine wpAny_bind (bindE (S.e h f) fun d σ1 v s1 hq rv st1 sp1 => ?_)
  have f1 := f.next st1
  cases hfn : isFnD d with
  | true =>
    refine callWith_any hfn f1 rv hs (wpAny_mono (S.es pos hq hs f1) (fun vs s2 q => ?_) fun _ _ x => x)
    cases q with | mk _ q =>
    cases q with | mk ds σ2 hc rs st2 sp2 =>
    exact ⟨sp2, pe_mono (call_sound hA (f1.next st2) hc (rv.keeps (f.fz sp2)) rs) (sp1.trans sp2)⟩
  | false => -- never called
    have hno : ∀ ds σ, ¬ callW C.g d ds σ Q := fun ds σ h => by
      cases d <;> first | exact h.elim | cases hfn
    unfold callWith
    refine wpAny_bind (wpAny_holding (evalArgs_any hs (wpAny_mono (S.es pos hq hs f1) (fun vs s2 q => ?_) fun _ _ x => x)))
    cases q with | mk _ q =>
    cases q with | mk ds σ2 hc => exact (hno _ _ hc).elim

theorem e_meth (hA : AOk A C.g.lvl) (S : Snd C A n) {o : Expr} {name : Str} {apos : Pos} {args : List Expr} {pos : Pos} (ho : attrOk o = true) (hs : noStar args = true) (hl : Nat.ble args.length 20 = true) (hp : (apos.endLine == pos.line) = true)
    (h : wpE C.g n F.cx o ρ σ fun a σ => onlyT (methOk a name) (wpEs C.g n F.cx args ρ σ fun ds σ => methW a name ds fun d => Q d σ)) (f : Fra C F hid ρ σ s) :
    wpAny (model C.prog C.w) A (eval (.Call (.Attribute o name apos) args [] pos) F.env) (PE C F hid ρ Q s) NoE s := by
  cases o <;> first | (cases ho; done) | skip
  rw [meth_eq hs (Nat.le_of_ble_eq_true hl) hp]
  refine wpAny_bind (bindE (S.e h f) fun d σ1 v s1 hq rv st1 sp1 => ?_)
  obtain ⟨hm, hq⟩ := onlyT_inv hq
  have f1 := f.next st1
  refine wpAny_bind (wpAny_standAt (wpAny_bind (wpAny_holding ?_)))
  exact wpAny_mono (methW_sound hA f1 hs rv (S.es (s := s1) pos hq hs f1) hm) (fun fx s2 q => wpAny_mono q (fun _ _ q => q.from sp1) fun _ _ x => x) fun _ _ x => x

theorem e_index (S : Snd C A n) {es : List Expr} {p : Pos} {name : Str} {apos : Pos} {a : Expr} {pos : Pos} (hs : noStar es = true) (hs2 : noStar [a] = true) (hl : Nat.ble es.length 1000 = true) (hp : (apos.endLine == pos.line) = true) (hnm : seqb name sIndex = true)
    (h : wpEs C.g n F.cx es ρ σ fun ds σ => wpEs C.g n F.cx [a] ρ σ fun d σ => one1 d fun d => indexW ds d fun d => Q d σ) (f : Fra C F hid ρ σ s) :
    wpAny (model C.prog C.w) A (eval (.Call (.Attribute (.List es p) name apos) [a] [] pos) F.env) (PE C F hid ρ Q s) NoE s := by
  have e := seqb_iff.mp hnm
  rw [sIndex_is] at e
  subst e
  rw [meth_eqL hs2 (Nat.succ_le_succ (Nat.zero_le _)) hp]
  refine wpAny_bind (List_ (wpAny_mono (S.es p h hs f) (fun vs s1 q => ?_) fun _ _ x => x))
  cases q with | mk hvl q =>
  cases q with | mk ds σ1 hq rs st1 sp1 =>
  have hlen := Nat.le_of_ble_eq_true hl
  refine wpAny_newObj_type ?_ (seq_line hvl hlen)
  generalize hs2' : ({ s1 with heap := s1.heap.push { cls := .type "list", dict := none, data := .seq vs.toArray } } : Shared) = s2
  have gr : Grow s1 s2 := by rw [← hs2']; exact Grow.heap' (stays_push _)
  have f2 := f.next (st1.grow gr.stays)
  have hobj : s2.heap.get? s1.heap.objs.size = some { cls := .type "list", dict := none, data := .seq vs.toArray, slots := #[] } := by rw [← hs2']; exact Heap.get?_push_size _ rfl
  refine wpAny_bind (wpAny_standAt (wpAny_bind (wpAny_holding (gm_index hobj ?_))))
  refine callWith_builtin (noStar_any hs2) (evalArgs_any hs2 (wpAny_mono (S.es (s := s2) pos hq hs2 f2) (fun vs' s3 q => ?_) fun _ _ x => x))
  cases q with | mk _ q =>
  cases q with | mk ds' σ3 hq3 rs3 st3 sp3 =>
  cases one1_inv hq3 with | mk hq4 =>
  cases rs3 with | cons r1 r2 =>
  cases r2
  have hob : (hideAll s2.heap hid).get? s1.heap.objs.size = some { cls := .type "list", dict := none, data := .seq vs.toArray, slots := #[] } := hideAll_get _ hobj (fresh_hid st1.live)
  exact res_mono (index_sound (of_hideAll _ (f.fz sp3 _ _ hob)) (seq_size hvl hlen) (RepL.keeps (rs.keeps (stays_hid hid gr.stays)) (f.fz sp3)) r1 hq4) st3 ((sp1.trans gr.step).trans sp3) fun d k => k

theorem e_cut (S : Snd C A n) {v i : Expr} {p pos : Pos} (h : wpE C.g n F.cx v ρ σ fun a σ => wpE C.g n F.cx i ρ σ fun b σ => cutW a b fun d => Q d σ) (f : Fra C F hid ρ σ s) :
    wpAny (model C.prog C.w) A (eval (.Subscript v (.Slice (some i) none none p) pos) F.env) (PE C F hid ρ Q s) NoE s := by
  refine Subscript_ (bindE (S.e h f) fun a σ1 va s1 h1 ra st1 sp1 => ?_)
  rw [arm_eval_Slice]
  refine wpAny_bind (show wpAny (model C.prog C.w) A (eval i F.env) _ _ _ from bindE (S.e h1 (f.next st1)) fun b σ2 vb s2 h2 rb st2 sp2 => ?_)
  refine wpAny_bind (wpAny_holding (show wpAny (model C.prog C.w) A (pure Value.none) _ _ _ from wpAny_pure ?_))
  refine wpAny_bind (wpAny_holding (show wpAny (model C.prog C.w) A (pure Value.none) _ _ _ from wpAny_pure ?_))
  refine wpAny_mono (cutW_sound (value := v) (l := some i) (u := none) (pos := p) h2 (ra.keeps (f.fz sp2)) rb) (fun sv s3 q => ?_) fun _ _ x => x
  exact wpAny_mono q (fun v s4 r => (pe_res st2 r fun d k => k).from (sp1.trans sp2)) fun _ _ x => x

theorem tupOf_inv {e : Expr} {es : List Expr} (h : tupOf e = some es) : ∃ k p, e = .Tuple es k p := by
  cases e <;> first | (cases h; exact ⟨_, _, rfl⟩) | exact nomatch (show none = some es from h)
theorem intOf_inv {e : Expr} {i : Int} (h : intOf e = some i) : ∃ k p, e = .Constant (.int i) k p := by
  cases e with
  | Constant c k p =>
    cases c <;> first | (cases h; exact ⟨_, _, rfl⟩) | (cases (show none = some i from h))
  | _ => cases (show none = some i from h)
theorem strOf_inv {e : Option Expr} {x : Str} (h : strOf e = some x) : ∃ k p, e = some (.Constant (.str x) k p) := by
  cases e with
  | none => cases h
  | some e =>
    cases e with
    | Constant c k p =>
      cases c <;> first | (cases h; exact ⟨_, _, rfl⟩) | (cases (show none = some x from h))
    | _ => cases (show none = some x from h)
theorem isTwo_inv {r : Expr} (h : twoTup.isTwo r = true) : ∃ k p, r = .Constant (.int 2) k p := by
  unfold twoTup.isTwo at h
  cases e : intOf r with
  | none => rw [e] at h; cases h
  | some i =>
    rw [e] at h
    cases i with
    | negSucc m => cases h
    | ofNat m =>
      have := Nat.eq_of_beq_eq_true h
      subst this
      exact intOf_inv e
inductive TwoA (l : Expr) (op : Operator) (r e : Expr) : Prop
  | mk {k k' : Nat} {p p' : Pos} : l = .Tuple [e] k p → op = .Mult → r = .Constant (.int 2) k' p' → isStar e = false → TwoA l op r e
theorem twoTup_spec {l r e : Expr} {op : Operator} (h : twoTup l op r = some e) : ∃ k p k' p', l = .Tuple [e] k p ∧ op = .Mult ∧ r = .Constant (.int 2) k' p' ∧ isStar e = false := by
  unfold twoTup at h
  cases h1 : tupOf l with
  | none => rw [h1] at h; cases h
  | some es =>
    rw [h1] at h
    obtain ⟨k, p, rfl⟩ := tupOf_inv h1
    cases es with
    | nil => cases h
    | cons a t =>
      cases t with
      | cons => cases h
      | nil =>
        dsimp only at h
        cases h2 : isMult op with
        | false => rw [h2] at h; cases h
        | true =>
          cases h3 : twoTup.isTwo r with
          | false => rw [h2, h3] at h; cases h
          | true =>
            cases h4 : isStar a with
            | true => rw [h2, h3, h4] at h; cases h
            | false =>
              rw [h2, h3, h4] at h
              cases h
              obtain ⟨k', p', rfl⟩ := isTwo_inv h3
              cases op <;> first | exact ⟨_, _, _, _, rfl, rfl, rfl, h4⟩ | cases h2
theorem e_two (S : Snd C A n) {e : Expr} {k k' : Nat} {p p' pos : Pos} (he : isStar e = false) (h : wpE C.g n F.cx e ρ σ fun d σ => Q (.tup [d, d]) σ) (f : Fra C F hid ρ σ s) :
    wpAny (model C.prog C.w) A (eval (.BinOp (.Tuple [e] k p) .Mult (.Constant (.int 2) k' p') pos) F.env) (PE C F hid ρ Q s) NoE s := by
  refine wpAny_BinOp (Tuple_ (arg1 S he f h fun d σ1 v s1 h1 rv st1 sp1 => ?_))
  refine wpAny_newObj_type ?_ (seq_line (vs := [v]) (n := 1) rfl (by decide))
  refine wpAny_Constant_int ?_
  dsimp only
  refine mul_tuple_two (k := 0) (v := v) (Heap.get?_push_size s1.heap (o := { cls := .type "tuple", dict := none, data := .seq [v].toArray }) rfl) ?_
  have stt : s1.heap.StaysIn ((s1.heap.push { cls := .type "tuple", dict := none, data := .seq [v].toArray }).push { cls := .type "tuple", data := .seq #[v, v] }) := fun b o x => Heap.get?_push_of_some _ (Heap.get?_push_of_some _ x)
  have rv' := rv.keeps (stays_hid hid stt)
  exact ⟨.tup [d, d], σ1, h1, .tup (vs := #[v, v]) (show 2 ≤ 1000 by decide) ⟨_, hideAll_get _ (Heap.get?_push_size _ rfl) (fresh_hid (st1.grow (stays_push _)).live), rfl, _, rfl⟩ (.cons rv' (.cons rv' .nil)), st1.grow stt, sp1.trans (Grow.heap _ stt).step⟩

theorem two_keys {k1 k2 : Str} {i1 i2 : Int} {t1 t2 : Tok} {X : Wd} {h : Heap} (hne : k2 ≠ k1) : RpS X h [(k1, .int i1), (k2, .int i2)] (fun x => (valueAt [(k1, Value.int i1 t1), (k2, .int i2 t2)] x).getD .none) :=
  ⟨by simp [valueAt]; exact Rep.int _ _, by simp [valueAt, Ne.symm hne]; exact Rep.int _ _, trivial⟩
theorem one1_ex {α : Type} {l : List α} {K : α → Prop} (h : one1 l K) : ∃ a, l = [a] ∧ K a := by
  cases one1_inv h with | mk h => exact ⟨_, rfl, h⟩
inductive Dict2 (K : Str → Int → Str → Int → Prop) : List (Option Expr) → List Expr → Prop
  | mk {k1 k2 : Str} {i1 i2 : Int} {a1 a2 a3 a4 : Nat} {p1 p2 p3 p4 : Pos} : seqb k2 k1 = false → lok k1.cps.toList = true → lok k2.cps.toList = true → K k1 i1 k2 i2 →
      Dict2 K [some (.Constant (.str k1) a1 p1), some (.Constant (.str k2) a2 p2)] [.Constant (.int i1) a3 p3, .Constant (.int i2) a4 p4]
theorem dict2W_inv {ks : List (Option Expr)} {vs : List Expr} {K : Str → Int → Str → Int → Prop} (h : dict2W ks vs K) : Dict2 K ks vs := by
  cases ks with
  | nil => exact False.elim h
  | cons ka ks =>
  obtain ⟨k1, e1, h1⟩ := someW_inv (show someW (strOf ka) _ from h)
  clear h
  obtain ⟨kb, rfl, h2⟩ := one1_ex h1
  clear h1
  obtain ⟨k2, e2, h3⟩ := someW_inv h2
  clear h2
  cases vs with
  | nil => exact False.elim h3
  | cons va vs =>
  obtain ⟨i1, e3, h4⟩ := someW_inv (show someW (intOf va) _ from h3)
  clear h3
  obtain ⟨vb, rfl, h5⟩ := one1_ex h4
  clear h4
  obtain ⟨i2, e4, h6⟩ := someW_inv h5
  clear h5
  cases hne : seqb k2 k1 with
  | true => rw [hne] at h6; exact h6.elim
  | false =>
  rw [hne] at h6
  obtain ⟨o1, h7⟩ := onlyT_inv h6
  obtain ⟨o2, h8⟩ := onlyT_inv h7
  obtain ⟨a1, p1, rfl⟩ := strOf_inv e1
  obtain ⟨a2, p2, rfl⟩ := strOf_inv e2
  obtain ⟨a3, p3, rfl⟩ := intOf_inv e3
  obtain ⟨a4, p4, rfl⟩ := intOf_inv e4
  exact .mk hne o1 o2 h8
theorem e_dict {ks : List (Option Expr)} {vs : List Expr} {pos : Pos} (h : dict2W ks vs fun k1 i1 k2 i2 => Q (.dct [(k1, .int i1), (k2, .int i2)]) σ) (f : Fra C F hid ρ σ s) :
    wpAny (model C.prog C.w) A (eval (.Dict ks vs pos) F.env) (PE C F hid ρ Q s) NoE s := by
  cases dict2W_inv h with | @mk k1 k2 i1 i2 a1 a2 a3 a4 p1 p2 p3 p4 hne o1 o2 hq =>
  have hne' : k2 ≠ k1 := fun e => by rw [e, seqb_self] at hne; cases hne
  refine wpAny_Dict_pairs (knd := strKind C.prog C.w) (pairs := [(eval (.Constant (.str k1) a1 p1) F.env, do let x ← eval (.Constant (.int i1) a3 p3) F.env; standAt pos; pure x), (eval (.Constant (.str k2) a2 p2) F.env, do let x ← eval (.Constant (.int i2) a4 p4) F.env; standAt pos; pure x)]) rfl (by simp) (by simp) ?_
  unfold evalPairs
  refine wpAny_bind (Constant_str ?_)
  refine wpAny_bind (wpAny_holding (wpAny_bind (wpAny_Constant_int (wpAny_bind (wpAny_standAt (wpAny_pure ?_))))))
  refine wpAny_bind (wpAny_holding ?_)
  unfold evalPairs
  refine wpAny_bind (Constant_str ?_)
  refine wpAny_bind (wpAny_holding (wpAny_bind (wpAny_Constant_int (wpAny_bind (wpAny_standAt (wpAny_pure ?_))))))
  refine wpAny_bind (wpAny_holding ?_)
  unfold evalPairs
  refine wpAny_pure (wpAny_pure (wpAny_pure ?_))
  dsimp only
  refine display_done_str (by rfl) (by simp [strPairs, Ne.symm hne']) (Heap.DictOf.new _) fun h' hd' hs => ?_
  have hd'' : h'.DictOf (strKind C.prog C.w) s.heap.objs.size [(k1, .int i1 (s.toks + 1)), (k2, .int i2 (s.toks + 1 + 1 + 1))] := hd'
  have st' : s.heap.StaysIn h' := fun b o x => (hs.2 b (Nat.ne_of_lt (Heap.lt_size x))).trans (Heap.get?_push_of_some _ x)
  obtain ⟨ab, ob, hob, hb⟩ := C.big f.st.base
  have hsz : (s.heap.objs.size == sysModules) = false :=
    beq_false_of_ne (Nat.ne_of_gt (Nat.lt_of_le_of_lt (Nat.le_of_ble_eq_true hb) (Heap.lt_size (of_hideAll _ hob))))
  obtain ⟨om, es, ep, hom, rm⟩ := hd''.mapOf
  refine ⟨_, σ, hq, DcA.dct (f := valueAt [(k1, Value.int i1 (s.toks + 1)), (k2, Value.int i2 (s.toks + 1 + 1 + 1))]) (g := fun x => (valueAt [(k1, Value.int i1 (s.toks + 1)), (k2, Value.int i2 (s.toks + 1 + 1 + 1))] x).getD .none) hsz ⟨om, es, ep, hideAll_get _ hom (fresh_hid f.st.live), rm⟩ (fun x d e => ?_) (fun x e => ?_) (two_keys hne'), f.st.grow st', (Grow.heap _ st').step⟩
  · rcases ne_of_lk e with ⟨rfl, _⟩ | ⟨q, e⟩
    · simp [valueAt]
    · rcases ne_of_lk e with ⟨rfl, _⟩ | ⟨q2, e⟩
      · simp [valueAt, Ne.symm q]
      · cases e
  · rcases ne_of_lk e with ⟨_, e⟩ | ⟨q, e⟩
    · cases e
    · rcases ne_of_lk e with ⟨_, e⟩ | ⟨q2, e⟩
      · cases e
      · simp [valueAt, Ne.symm q, Ne.symm q2]
end
end Mine.Internal

end
section
open PySem PySem.W PyProof.Rows PySem.Calls Builtin
set_option Elab.async false
set_option tactic.hygienic false
set_option genSizeOf false
set_option genInjectivity false
set_option linter.all false
set_option maxRecDepth 100000
set_option backward.match.sparseCases false
set_option bootstrap.genMatcherCode false
namespace Mine.Internal
section
variable {C : Cfg} {A : Around} {F : Fm} {hid : List Addr} {ρ : En} {σ σ' : Sg} {s s' s'' : Shared} {Q : D → Sg → Prop} {n : Nat}
theorem e_bin (S : Snd C A n) {l r : Expr} {op : Operator} {pos : Pos} (h : wpE C.g (n + 1) F.cx (.BinOp l op r pos) ρ σ Q) (f : Fra C F hid ρ σ s) : wpAny (model C.prog C.w) A (eval (.BinOp l op r pos) F.env) (PE C F hid ρ Q s) NoE s := by
  have h : match twoTup l op r with
      | some e => wpE C.g n F.cx e ρ σ fun d σ => Q (.tup [d, d]) σ
      | none => wpE C.g n F.cx l ρ σ fun a σ => wpE C.g n F.cx r ρ σ fun b σ => binW op a b fun d => Q d σ := h
  cases ht : twoTup l op r with
  | some e =>
    rw [ht] at h
    obtain ⟨k, p, k', p', rfl, rfl, rfl, he⟩ := twoTup_spec ht
    exact e_two S he h f
  | none =>
    rw [ht] at h
    refine wpAny_BinOp (bindE (S.e h f) fun a σ1 va s1 h1 ra st1 sp1 => ?_)
    exact bindE (S.e h1 (f.next st1)) fun b σ2 vb s2 h2 rb st2 sp2 => res_mono (binW_sound st2.live h2 (ra.keeps (f.fz sp2)) rb) st2 (sp1.trans sp2) fun d k => k
theorem e_sub (S : Snd C A n) {v i : Expr} {pos : Pos} (h : wpE C.g (n + 1) F.cx (.Subscript v i pos) ρ σ Q) (f : Fra C F hid ρ σ s) : wpAny (model C.prog C.w) A (eval (.Subscript v i pos) F.env) (PE C F hid ρ Q s) NoE s := by
  have h : match sliceOf i with
      | some o => someW o fun i => wpE C.g n F.cx v ρ σ fun a σ => wpE C.g n F.cx i ρ σ fun b σ => cutW a b fun d => Q d σ
      | none => wpE C.g n F.cx v ρ σ fun a σ => wpE C.g n F.cx i ρ σ fun b σ => subW a b σ fun d => Q d σ := h
  cases hs : sliceOf i with
  | none =>
    rw [hs] at h
    refine Subscript_ (bindE (S.e h f) fun a σ1 va s1 h1 ra st1 sp1 => ?_)
    exact bindE (S.e h1 (f.next st1)) fun b σ2 vb s2 h2 rb st2 sp2 => res_mono (subW_sound hs h2 (ra.keeps (f.fz sp2)) rb st2.well) st2 (sp1.trans sp2) fun d k => k
  | some o =>
    rw [hs] at h
    obtain ⟨j, rfl, h⟩ := someW_inv h
    obtain ⟨p, rfl⟩ : ∃ p, i = .Slice (some j) none none p := by
      cases i with
      | Slice a b c p => cases a <;> cases b <;> cases c <;> first | (cases hs; exact ⟨_, rfl⟩) | (cases (show some none = some (some j) from hs))
      | _ => cases (show none = some (some j) from hs)
    exact e_cut S h f
theorem e_callE (hA : AOk A C.g.lvl) (S : Snd C A n) {fe : Expr} {args : List Expr} {kws : List Keyword} {pos : Pos} (h : wpE C.g (n + 1) F.cx (.Call fe args kws pos) ρ σ Q) (f : Fra C F hid ρ σ s) :
    wpAny (model C.prog C.w) A (eval (.Call fe args kws pos) F.env) (PE C F hid ρ Q s) NoE s := by
  obtain ⟨e0, h0⟩ := nil1_inv (show nil1 kws _ from h)
  clear h
  subst e0
  by_cases ha : ∃ o name apos, fe = .Attribute o name apos
  · obtain ⟨o, name, apos, rfl⟩ := ha
    obtain ⟨h1, h⟩ := onlyT_inv (show onlyT _ _ from h0)
    clear h0
    obtain ⟨h2, h⟩ := onlyT_inv h
    by_cases hl : ∃ es p, o = .List es p
    · obtain ⟨es, p, rfl⟩ := hl
      obtain ⟨h3, h⟩ := onlyT_inv (show onlyT (noStar es) _ from h)
      obtain ⟨h4, h⟩ := onlyT_inv h
      obtain ⟨h5, h⟩ := onlyT_inv h
      obtain ⟨a, e1, h6⟩ := one1_ex h
      clear h
      subst e1
      exact e_index S h3 h2 h4 h1 h5 h6 f
    · have hn : listOf o = none := by cases o <;> first | rfl | exact (hl ⟨_, _, rfl⟩).elim
      rw [hn] at h
      obtain ⟨h3, h⟩ := onlyT_inv h
      obtain ⟨h4, h⟩ := onlyT_inv h
      exact e_meth hA S h3 h2 h4 h1 h f
  · have hz : ∀ (K : Expr → Str → Pos → Prop) (Z : Prop), attrW fe K Z = Z := fun K Z => by cases fe <;> first | rfl | exact (ha ⟨_, _, _, rfl⟩).elim
    rw [hz] at h0
    obtain ⟨h1, h⟩ := onlyT_inv h0
    obtain ⟨h2, h⟩ := onlyT_inv h
    exact e_call hA S h1 h2 h f
theorem snd_e (hA : AOk A C.g.lvl) (S : Snd C A n) : SndE C A (n + 1) := fun {F e ρ σ Q hid s} h f => by
  cases e with
  | Constant c k pos => exact const_sound f h
  | Name x pos => exact name_sound f.e f.st h fun d k => k
  | BinOp l op r pos => exact e_bin S h f
  | Dict ks vs pos => exact e_dict h f
  | UnaryOp op x pos =>
    cases op <;> first | exact False.elim h | exact UnaryOp_ (bindE (S.e (show wpE C.g n F.cx x ρ σ fun a σ => negW a fun d => Q d σ from h) f) fun a σ1 va s1 h1 ra st1 sp1 => res_mono (negW_sound h1 ra) st1 sp1 fun d k => k)
  | BoolOp op vs pos => exact S.b pos (show wpB C.g n F.cx op vs ρ σ Q from h) f
  | IfExp t b o pos =>
    refine IfExp_ (wpAny_mono (S.t (show wpT C.g n F.cx t ρ σ fun c σ => WIf c (wpE C.g n F.cx b ρ σ Q) (wpE C.g n F.cx o ρ σ Q) from h) f) (fun c s1 q => ?_) fun _ _ x => x)
    cases q with | mk σ1 hc st1 sp1 =>
    cases c with
    | true => exact pe_mono (S.e (hc.t rfl) (f.next st1)) sp1
    | false => exact pe_mono (S.e (hc.f rfl) (f.next st1)) sp1
  | Compare l ops rs pos =>
    obtain ⟨op, e1, h1⟩ := one1_ex (show one1 ops _ from h)
    obtain ⟨r, e2, h2⟩ := one1_ex h1
    clear h h1
    subst e1 e2
    obtain ⟨hr, h⟩ := notSet h2
    refine wpAny_Compare1 (bindE (S.e h f) fun a σ1 va s1 h1 ra st1 sp1 => ?_) (behind_false hr)
    exact bindE (S.e h1 (f.next st1)) fun b σ2 vb s2 h2 rb st2 sp2 => pe_mono (cmp_sound hA (f.next st2) h2 (ra.keeps (f.fz sp2)) rb) (sp1.trans sp2)
  | Tuple es k pos =>
    obtain ⟨hs, h⟩ := onlyT_inv (show onlyT (noStar es) _ from h)
    obtain ⟨hl, h⟩ := onlyT_inv h
    refine Tuple_ (wpAny_mono (S.es _ h hs f) (fun vs s1 q => ?_) fun _ _ x => x)
    cases q with | mk hv q =>
    cases q with | mk ds σ1 hq rs st1 sp1 =>
    exact pe_mono (newTuple_sound st1 rs (by rw [← rs.length, hv]; exact Nat.le_of_ble_eq_true hl) hq) sp1
  | List es pos =>
    obtain ⟨hs, h⟩ := onlyT_inv (show onlyT (noStar es) _ from h)
    obtain ⟨hl, h⟩ := onlyT_inv h
    refine List_ (wpAny_mono (S.es _ h hs f) (fun vs s1 q => ?_) fun _ _ x => x)
    cases q with | mk hv q =>
    cases q with | mk ds σ1 hq rs st1 sp1 =>
    exact pe_mono (newList_sound st1 rs (by rw [← rs.length, hv]; exact Nat.le_of_ble_eq_true hl) hq) sp1
  | Subscript v i pos => exact e_sub S h f
  | Call fe args kws pos => exact e_callE hA S h f
  | ListComp elt gens scope pos => exact e_compE hA S h f
  | _ => exact False.elim h
theorem snd_all (hA : AOk A C.g.lvl) : ∀ n, Snd C A n
  | 0 => ⟨fun h => False.elim h, fun _ h => False.elim h, fun _ h => False.elim h, fun h => False.elim h, fun h => False.elim h, fun h => False.elim h, fun h => False.elim h⟩
  | n + 1 => have S := snd_all hA n
    ⟨snd_e hA S, snd_es S, snd_b S, snd_t hA S, snd_ts S, snd_it hA S, snd_ifs S⟩

theorem asgNs_sound {K : En → Prop} : ∀ {xs : List Str} {ds : List D} {vs : List Value} {ρ : En} {s : Shared}, asgNs F.cx xs ds ρ K → RepL C.toWd (hideAll s.heap hid) vs ds → Fra C F hid ρ σ s →
    wpAny (model C.prog C.w) A (assignInOrder (xs.map fun n => bindName F.env n) vs) (fun _ s' => PA C F hid σ K s s') NoE s
  | [], ds, _, ρ, s, h, r, f => by
    obtain ⟨rfl, h⟩ := nil1_inv (show nil1 ds _ from h)
    cases r
    exact wpAny_pure ⟨ρ, h, f.st, .refl s⟩
  | _ :: _, [], _, _, _, h, _, _ => False.elim h
  | x :: xs, d :: ds, _, ρ, s, h, r, f => by
    cases r with | @cons v vs r1 r2 =>
    show wpAny _ _ (do holding vs (bindName F.env x v); assignInOrder (xs.map fun n => bindName F.env n) vs) _ _ _
    refine wpAny_bind (wpAny_holding (wpAny_mono (wpAny_bindName (store_sound f.e f.ha f.hL f.hne f.st r1 (show asgW F.cx x d ρ fun ρ => asgNs F.cx xs ds ρ K from h))) (fun _ s1 q => ?_) fun _ _ x => x))
    cases q with | mk ρ1 h1 st1 sp1 =>
    exact wpAny_mono (asgNs_sound h1 (RepL.keeps r2 (f.fz sp1)) ⟨f.e, f.ha, f.hL, f.hne, st1⟩) (fun _ s2 q => q.from sp1) fun _ _ x => x
theorem asgNs_len {cx : Cx} {K : En → Prop} : ∀ {xs : List Str} {ds : List D} {ρ : En}, asgNs cx xs ds ρ K → xs.length = ds.length
  | [], ds, _, h => by obtain ⟨rfl, _⟩ := nil1_inv (show nil1 ds _ from h); rfl
  | _ :: _, [], _, h => False.elim h
  | x :: xs, d :: ds, ρ, h => congrArg (· + 1) (asgNs_len (onlyT_inv (show asgW cx x d ρ (fun ρ => asgNs cx xs ds ρ K) from h)).2)
theorem RepL.reverse {X : Wd} {h : Heap} : ∀ {ds : List D} {vs : List Value}, RepL X h vs ds → RepL X h vs.reverse ds.reverse
  | [], _, r => by cases r; exact .nil
  | d :: ds, _, r => by
    cases r with | cons a b =>
    rw [List.reverse_cons, List.reverse_cons]
    exact (RepL.reverse b).append (.cons a .nil)

theorem tsName_spec {line : Nat} (e : EnvOk F) {t : Expr} {id : Str} (h : tsName F.cx line t = some id) : ∃ pos, t = .Name id pos ∧ F.env.kindOf id = some NameKind.local ∧ (pos.line == line) = true := by
  cases t with
  | Name x pos =>
    cases h1 : isLocalK (lk x F.cx.kinds) with
    | false => have h : (match isLocalK (lk x F.cx.kinds) with | true => (match pos.line == line with | true => some x | false => none) | false => none) = some id := h; rw [h1] at h; cases h
    | true =>
      cases h2 : pos.line == line with
      | false => have h : (match isLocalK (lk x F.cx.kinds) with | true => (match pos.line == line with | true => some x | false => none) | false => none) = some id := h; rw [h1, h2] at h; cases h
      | true =>
        have h : (match isLocalK (lk x F.cx.kinds) with | true => (match pos.line == line with | true => some x | false => none) | false => none) = some id := h
        rw [h1, h2] at h; cases h
        exact ⟨pos, rfl, e.names _ _ (isLocalK_spec h1) (by decide), h2⟩
  | _ => cases h
theorem tsNames_spec {line : Nat} (e : EnvOk F) {ts : List Expr} : ∀ {names : List Str}, tsNames F.cx line ts = some names →
    names.length = ts.length ∧ ∀ f : Expr → Option Str, (∀ id pos, f (.Name id pos) = if (F.env.kindOf id == some NameKind.local && pos.line == line) = true then some id else none) → ts.filterMap f = names := by
  induction ts with
  | nil => intro _ h; cases h; exact ⟨rfl, fun _ _ => rfl⟩
  | cons t ts ih =>
    intro names h
    replace h : (match tsName F.cx line t with | some y => (tsNames F.cx line ts).map (y :: ·) | none => none) = some names := h
    cases h1 : tsName F.cx line t with
    | none => rw [h1] at h; cases h
    | some id =>
      rw [h1] at h
      obtain ⟨pos, rfl, hk, hl⟩ := tsName_spec e h1
      cases h3 : tsNames F.cx line ts with
      | none => rw [h3] at h; cases h
      | some l =>
        rw [h3] at h
        cases h
        obtain ⟨a, b⟩ := ih h3
        refine ⟨congrArg (· + 1) a, fun f hf => ?_⟩
        have hfi : f (.Name id pos) = some id := by rw [hf, hk, hl]; rfl
        rw [List.filterMap_cons_some hfi, b f hf]
theorem inS_false {x : Str} : ∀ {l : List Str}, inS x l = false → x ∉ l
  | [], _ => List.not_mem_nil
  | y :: r, h => fun q => by
    unfold inS at h
    cases e : seqb x y with
    | true => rw [e] at h; cases h
    | false =>
      rw [e] at h
      rcases List.mem_cons.mp q with rfl | q
      · rw [seqb_self] at e; cases e
      · exact inS_false h q
theorem nodupS_spec : ∀ {l : List Str}, nodupS l = true → l.Nodup
  | [], _ => .nil
  | x :: r, h => by
    unfold nodupS at h
    cases q : inS x r with
    | true => rw [q] at h; cases h
    | false => rw [q] at h; exact List.nodup_cons.mpr ⟨inS_false q, nodupS_spec h⟩
theorem eraseDups_nodup : ∀ {l : List Str}, l.Nodup → l.eraseDups = l
  | [], _ => rfl
  | x :: r, h => by
    rw [List.eraseDups_cons]
    obtain ⟨h1, h2⟩ := List.nodup_cons.mp h
    rw [List.filter_eq_self.mpr (fun y hy => by
      have : y ≠ x := fun e => h1 (e ▸ hy)
      simpa using this), eraseDups_nodup h2]
theorem noStar_vs (p : Expr → Bool) (hp : ∀ e, isStar e = false → p e = false) : ∀ {vs : List Expr}, noStar vs = true → vs.any p = false
  | [], _ => rfl
  | e :: r, h => by
    rw [List.any_cons, noStar_vs p hp (noStar_inv h).2, Bool.or_false]
    exact hp e (noStar_inv h).1
theorem blockKind_of (e : EnvOk F) : F.env.blockKind = .function := by
  unfold Env.blockKind
  rw [e.kind]; rfl
theorem swp_spec (e : EnvOk F) {ts vs : List Expr} {k k' : Nat} {p p' : Pos} {names : List Str} (hn : tsNames F.cx (headLine ts) ts = some names)
    (h : (two3 ts.length && (Nat.beq vs.length ts.length && (noStar vs && (nodupS names && (!vs.all (foldedForSure 8) && !vs.all (constantsAlone 8)))))) = true) :
    swappedStores [.Tuple ts k p] (.Tuple vs k' p') F.env = pure (some names) ∧ names.length = ts.length := by
  obtain ⟨h1, h⟩ := Bool.and_eq_true_iff.mp h
  obtain ⟨h2, h⟩ := Bool.and_eq_true_iff.mp h
  obtain ⟨h3, h⟩ := Bool.and_eq_true_iff.mp h
  obtain ⟨h4, h⟩ := Bool.and_eq_true_iff.mp h
  obtain ⟨h5, h6⟩ := Bool.and_eq_true_iff.mp h
  have hline : (ts.head?.map (·.pos.line)).getD 0 = headLine ts := by cases ts <;> rfl
  unfold swappedStores
  have hlen : (ts.length == 2 || ts.length == 3) = true := by
    rcases Bool.or_eq_true_iff.mp h1 with q | q <;> simp [Nat.eq_of_beq_eq_true q]
  have hv : vs.length = ts.length := Nat.eq_of_beq_eq_true h2
  dsimp only
  obtain ⟨kb, ka⟩ := tsNames_spec e hn
  refine ⟨?_, kb⟩
  rw [ka _ (fun id pos => by rw [hline])]
  have hd := eraseDups_nodup (nodupS_spec h4)
  have c1 : (!(ts.length == 2 || ts.length == 3) || vs.length != ts.length || F.env.blockKind != .function) = false := by
    rw [hlen, hv, blockKind_of e]; simp
  have c2 : (names.length != ts.length || names.eraseDups.length != names.length) = false := by rw [hd, kb]; simp
  rw [c1, noStar_vs _ (fun e he => by cases e <;> first | rfl | cases he) h3, c2, not_t h5, not_t h6]
  rfl
theorem swp_none {ts : List Expr} {k : Nat} {p : Pos} {value : Expr} (h : tupOf value = none) : swappedStores [.Tuple ts k p] value F.env = pure none := by
  cases value <;> first | rfl | cases h
theorem swapsWith_sub {env : Env} {value o i : Expr} {p : Pos} {line : Nat} : swapsWith value (some (.Subscript o i p)) line env = pure false := by
  cases value <;> rfl
theorem swapsWith_tup {env : Env} {value : Expr} {ts : List Expr} {k : Nat} {p : Pos} {line : Nat} : swapsWithSole [.Tuple ts k p] value line env = pure false := by
  cases value <;> rfl
theorem swapsWith_name {env : Env} {value : Expr} {x : Str} {p : Pos} {line : Nat} (h : isCompE value = false) : swapsWith value (some (.Name x p)) line env = pure false := by
  cases value <;> first | rfl | cases h
theorem swapsWith_comp {env : Env} {elt : Expr} {gens : List Comprehension} {scope : Scope} {pos : Pos} {x : Str} {p : Pos} {line : Nat} : ∃ b, swapsWith (.ListComp elt gens scope pos) (some (.Name x p)) line env = pure b := ⟨_, rfl⟩
end
end Mine.Internal

end
section
open PySem PySem.W PyProof.Rows PySem.Calls
set_option Elab.async false
set_option tactic.hygienic false
set_option genSizeOf false
set_option genInjectivity false
set_option linter.all false
set_option maxRecDepth 100000
set_option backward.match.sparseCases false
set_option bootstrap.genMatcherCode false
namespace Mine.Internal
section
variable {C : Cfg} {A : Around} {F : Fm} {hid : List Addr} {ρ : En} {σ σ' : Sg} {s s' s'' : Shared} {n : Nat} {Qn : En → Sg → Prop} {Qr : D → Sg → Prop}
theorem ps_mono {t : Sem Flow} (h : wpAny (model C.prog C.w) A t (PS C F hid Qn Qr s') NoE s') (sp : Step C.aw F.L s s') : wpAny (model C.prog C.w) A t (PS C F hid Qn Qr s) NoE s' :=
  wpAny_mono h (fun _ _ q => q.from sp) fun _ _ x => x
theorem pa_ps {K : En → Prop} (q : PA C F hid σ (fun ρ => Qn ρ σ) s s') : PS C F hid Qn Qr s .next s' := match q with | .mk ρ k st sp => .next ρ σ k st sp

theorem s_plain (hA : AOk A C.g.lvl) {x : Str} {p pos : Pos} {value : Expr} (h : wpE C.g n F.cx value ρ σ fun d σ => asgW F.cx x d ρ fun ρ => Qn ρ σ) (f : Fra C F hid ρ σ s) (hs : swapsWith value (some (.Name x p)) pos.line F.env = pure false) :
    wpAny (model C.prog C.w) A (exec (.Assign [.Name x p] value pos) F.env) (PS C F hid Qn Qr s) NoE s :=
  wpAny_Assign_Name (bindE ((snd_all hA n).e h f) fun d σ1 v s1 h1 r1 st1 sp1 => wpAny_mono (store_sound f.e f.ha f.hL f.hne st1 r1 h1) (fun _ s2 q => (pa_ps (K := fun _ => True) q).from sp1) fun _ _ x => x) hs
theorem s_comp (hA : AOk A C.g.lvl) {x : Str} {p pos cpos : Pos} {elt : Expr} {gens : List Comprehension} {scope : Scope} (h : wpE C.g (n + 1) F.cx (.ListComp elt gens scope cpos) ρ σ fun d σ => asgW F.cx x d ρ fun ρ => Qn ρ σ) (f : Fra C F hid ρ σ s)
    (hb : swapsWith (.ListComp elt gens scope cpos) (some (.Name x p)) pos.line F.env = pure true) : wpAny (model C.prog C.w) A (exec (.Assign [.Name x p] (.ListComp elt gens scope cpos) pos) F.env) (PS C F hid Qn Qr s) NoE s := by
  rw [exec_Assign_Name_used x p _ pos hb]
  refine wpAny_bind (wpAny_standAt ?_)
  obtain ⟨c, e1, h1⟩ := one1_ex (show one1 gens _ from h)
  clear h
  subst e1
  obtain ⟨target, iter, ifs, a⟩ := c
  cases natW_inv h1 with | @mk k h2 =>
  cases k with
  | succ k => exact False.elim h2
  | zero =>
    obtain ⟨hcp, h⟩ := onlyT_inv h2
    refine wpAny_bind (show wpAny (model C.prog C.w) A (do let _ ← comprehension _ scope F.env _ (newList []) false (eval iter F.env) (some (assign (.Name x p) F.env)); pure ()) _ _ _ from
      wpAny_bind (e_comp (Q := fun d σ => asgW F.cx x d ρ fun ρ => Qn ρ σ) hA (snd_all hA n) hcp h f fun Dl Cc s' q => ?_))
    cases q with | mk es σ' hq st r sp m hm h1 h2 hn _ _ =>
    show wpAny (model C.prog C.w) A (assign (.Name x p) F.env (.ref Dl)) _ _ _
    refine wpAny_assign_Name (wpAny_mono (store_sound f.e (.tail _ f.ha) (.tail _ f.hL) f.hne st r hq) (fun _ s2 q => ?_) fun _ _ x => x)
    cases q with | mk ρ2 hq2 st2 sp2 =>
    refine ⟨m, hm.at' fun o x => sp2.keep _ o (fun q => ?_) x, fun h' hs => ?_⟩
    · rcases List.mem_cons.mp q with q | q
      · exact h2 q
      · exact h1 (List.mem_singleton.mp q)
    · obtain ⟨st3, sp3, _⟩ := compEndS (s := s) f.st.live st2 (sp.trans sp2) h1 h2 hn hs
      exact wpAny_pure (wpAny_pure (.next ρ2 σ' hq2 st3 sp3))
set_option tactic.hygienic true in
theorem s_name (hA : AOk A C.g.lvl) {x : Str} {p pos : Pos} {value : Expr} (h : wpE C.g n F.cx value ρ σ fun d σ => asgW F.cx x d ρ fun ρ => Qn ρ σ) (f : Fra C F hid ρ σ s) :
    wpAny (model C.prog C.w) A (exec (.Assign [.Name x p] value pos) F.env) (PS C F hid Qn Qr s) NoE s := by
  cases hc : isCompE value with
  | false => exact s_plain hA h f (swapsWith_name hc)
  | true =>
    cases n with
    | zero => exact False.elim h
    | succ n =>
      cases value <;> first | (cases hc; done) | exact False.elim h | skip
      rename_i elt gens scope cpos
      obtain ⟨b, hb⟩ := swapsWith_comp (elt := elt) (gens := gens) (scope := scope) (pos := cpos) (x := x) (p := p) (line := pos.line) (env := F.env)
      cases b with
      | false => exact s_plain hA h f hb
      | true => exact s_comp hA h f hb
theorem s_tup (hA : AOk A C.g.lvl) {ts : List Expr} {k : Nat} {p pos : Pos} {value : Expr} (h : swpW F.cx ts value (wpE C.g n F.cx value ρ σ fun d σ => itemsW d fun ds => asgsW F.cx ts ds ρ fun ρ => Qn ρ σ)
            fun names => wpE C.g n F.cx value ρ σ fun d σ => tupW d fun ds => asgNs F.cx names.reverse ds.reverse ρ fun ρ => Qn ρ σ) (f : Fra C F hid ρ σ s) :
    wpAny (model C.prog C.w) A (exec (.Assign [.Tuple ts k p] value pos) F.env) (PS C F hid Qn Qr s) NoE s := by
  have SE := snd_all (C := C) hA n
  cases ht : tupOf value with
  | none =>
    unfold swpW at h
    rw [ht] at h
    refine Assign_Tuple (bindE (SE.e h f) fun d σ1 v s1 h1 r1 st1 sp1 => ?_) swapsWith_tup (swp_none ht)
    have : ∃ ds, (itemsW d fun l => l = ds) ∧ asgsW F.cx ts ds ρ fun ρ => Qn ρ σ1 := by cases d <;> first | exact h1.elim | exact ⟨_, rfl, h1⟩
    obtain ⟨ds, hd, ha⟩ := this
    exact wpAny_mono (tuple_asg hA.handled f.e f.ha f.hL f.hne hd ha r1 st1) (fun _ s2 q => (pa_ps (K := fun _ => True) q).from sp1) fun _ _ x => x
  | some vs =>
    obtain ⟨k', p', rfl⟩ := tupOf_inv ht
    obtain ⟨names, hn, h⟩ := someW_inv (show someW (tsNames F.cx (headLine ts) ts) _ from h)
    obtain ⟨hc, h⟩ := onlyT_inv h
    obtain ⟨hst, hlen⟩ := swp_spec (k := k) (k' := k') (p := p) (p' := p') f.e hn hc
    refine Assign_Tuple_swapped (bindE (SE.e h f) fun d σ1 v s1 h1 r1 st1 sp1 => ?_) swapsWith_tup hst
    cases tupW_inv h1 with | @mk ds h2 =>
    have hl := asgNs_len h2
    rw [List.length_reverse, List.length_reverse] at hl
    rw [hl]
    refine unpackItems_any (d := .tup ds) (ds := ds) hA.handled r1 (show ds = ds from rfl) fun vs h' st' rr => ?_
    refine wpAny_mono (asgNs_sound h2 (RepL.reverse (rr.keeps (stays_hid hid st'))) (f.next (st1.grow st'))) (fun _ s2 q => ?_) fun _ _ x => x
    exact (pa_ps (K := fun _ => True) q).from (sp1.trans (Grow.heap' st').step)

theorem intW_ex {d : D} {K : Int → Prop} (h : intW d K) : ∃ x, d = .int x ∧ K x := by
  cases intW_inv h with | mk h => exact ⟨_, rfl, h⟩
theorem well_set {k : Int} {σ' : Sg} {i : Nat} {t t' : Tok} (hA : A.handled = none) (f : Fra C F hid ρ σ s) (hi : i = 1 ∧ σ' = { σ with spot := k } ∨ i = 2 ∧ σ' = { σ with x := k }) (h : Qn ρ σ') :
    wpAny (model C.prog C.w) A (setItem (.ref C.aw) (.int (Int.ofNat i) t) (.int k t')) (fun _ => PS C F hid Qn Qr s .next) NoE s := by
  cases f.st.well with | mk t1 t2 hl hr =>
  have hi2 : i < 3 := by rcases hi with ⟨rfl, _⟩ | ⟨rfl, _⟩ <;> decide
  refine wpAny_setItem_list hl (Int.natCast_nonneg _) (small63 (by (first | lia | omega))) (Int.ofNat_lt.mpr hi2) fun h' hl' hs => ?_
  have sp : Step C.aw F.L s { s with heap := h' } := ⟨Keep.sameBut hs (.head _), rfl⟩
  have fz := f.fz sp
  have wl : WellAt C.toWd hid h' σ' := by
    rcases hi with ⟨rfl, rfl⟩ | ⟨rfl, rfl⟩
    · exact ⟨t', t2, by simpa using hl', hr.keeps fz⟩
    · exact ⟨t1, t', by simpa using hl', hr.keeps fz⟩
  exact .next ρ σ' h (f.st.moveW fz (live_but hs (lst_live hl') f.st.live) (fun o x => (hs.2 _ (Ne.symm f.hne)).trans x) wl) sp
theorem s_sub (hA : AOk A C.g.lvl) {x : Str} {p p' pos : Pos} {i value : Expr} (h : someW (intOf i) fun k => natW k fun k => wpE C.g n F.cx value ρ σ fun d σ => wpE C.g n F.cx (.Name x p) ρ σ fun a σ => welW a d σ k fun σ => Qn ρ σ) (f : Fra C F hid ρ σ s) :
    wpAny (model C.prog C.w) A (exec (.Assign [.Subscript (.Name x p) i p'] value pos) F.env) (PS C F hid Qn Qr s) NoE s := by
  have SE := snd_all (C := C) hA n
  obtain ⟨k, e1, h1⟩ := someW_inv h
  clear h
  obtain ⟨a3, p3, rfl⟩ := intOf_inv e1
  cases natW_inv h1 with | @mk k h =>
  refine wpAny_Assign_Subscript (bindE (SE.e h f) fun d σ1 v s1 h1 r1 st1 sp1 => ?_) swapsWith_sub
  refine bindE (SE.e h1 (f.next st1)) fun a σ2 va s2 h2 ra st2 sp2 => ?_
  refine wpAny_Constant_int ?_
  have gt : Grow s2 { s2 with toks := s2.toks + 1 } := .toks s2 _
  have sp := (sp1.trans sp2).trans gt.step
  cases a <;> first | exact False.elim h2 | skip
  obtain ⟨x, e2, h3⟩ := intW_ex (show intW d _ from h2)
  subst e2
  cases ra
  cases r1
  cases k with
  | zero => exact False.elim h3
  | succ k => cases k with
    | zero => exact wpAny_mono (well_set (s := { s2 with toks := s2.toks + 1 }) hA.handled (f.next (s' := { s2 with toks := s2.toks + 1 }) st2) (.inl ⟨rfl, rfl⟩) h3) (fun _ s3 q => PS.from q sp) fun _ _ x => x
    | succ k => cases k with
      | zero => exact wpAny_mono (well_set (s := { s2 with toks := s2.toks + 1 }) hA.handled (f.next (s' := { s2 with toks := s2.toks + 1 }) st2) (.inr ⟨rfl, rfl⟩) h3) (fun _ s3 q => PS.from q sp) fun _ _ x => x
      | succ k => exact False.elim h3

noncomputable def SndS (C : Cfg) (A : Around) (n : Nat) : Prop := ∀ {F : Fm} {st : Stmt} {ρ : En} {σ : Sg} {Qn : En → Sg → Prop} {Qr : D → Sg → Prop} {hid : List Addr} {s : Shared}, wpS C.g n F.cx st ρ σ Qn Qr → Fra C F hid ρ σ s → wpAny (model C.prog C.w) A (exec st F.env) (PS C F hid Qn Qr s) NoE s
noncomputable def SndSs (C : Cfg) (A : Around) (n : Nat) : Prop := ∀ {F : Fm} {sts : List Stmt} {ρ : En} {σ : Sg} {Qn : En → Sg → Prop} {Qr : D → Sg → Prop} {hid : List Addr} {s : Shared}, wpSs C.g n F.cx sts ρ σ Qn Qr → Fra C F hid ρ σ s → wpAny (model C.prog C.w) A (execs sts F.env) (PS C F hid Qn Qr s) NoE s
theorem notCmp {e : Expr} {P : Prop} (h : match isCompE e with | true => False | false => P) : isCompE e = false ∧ P := by
  cases q : isCompE e with
  | true => rw [q] at h; exact h.elim
  | false => rw [q] at h; exact ⟨rfl, h⟩
theorem snd_s (hA : AOk A C.g.lvl) (S : SndSs C A n) : SndS C A (n + 1) := fun {F st ρ σ Qn Qr hid s} h f => by
  have SE := snd_all (C := C) hA n
  cases st with
  | Return o pos =>
    obtain ⟨e, e1, h⟩ := someW_inv (show someW o _ from h)
    subst e1
    exact wpAny_Return_some (bindE (SE.e h f) fun d σ1 v s1 h1 r1 st1 sp1 => .ret d σ1 ρ h1 r1 st1 sp1)
  | If t b o pos =>
    refine wpAny_If (wpAny_mono (SE.t (show wpT C.g n F.cx t ρ σ fun c σ => WIf c (wpSs C.g n F.cx b ρ σ Qn Qr) (wpSs C.g n F.cx o ρ σ Qn Qr) from h) f) (fun c s1 q => ?_) fun _ _ x => x)
    cases q with | mk σ1 hc st1 sp1 =>
    cases c with
    | true => exact ps_mono (S (hc.t rfl) (f.next st1)) sp1
    | false => exact ps_mono (S (hc.f rfl) (f.next st1)) sp1
  | Assign ts value pos =>
    obtain ⟨t, e1, h1⟩ := one1_ex (show one1 ts _ from h)
    clear h
    subst e1
    cases t with
    | Name x p => exact s_name hA h1 f
    | Tuple ts k p => exact s_tup hA (notCmp h1).2 f
    | Subscript o i p =>
      obtain ⟨x, p2, e2, h2⟩ := nmW_inv (notCmp h1).2
      clear h1
      subst e2
      exact s_sub hA h2 f
    | _ => exact False.elim h1
  | For t it b o pos =>
    obtain ⟨e1, h1⟩ := nil1_inv (show nil1 o _ from h)
    clear h
    subst e1
    refine wpAny_For (wpAny_mono (SE.it h1 f) (fun x s1 q => wpAny_mono q (fun it s2 q => ?_) fun _ _ x => x) fun _ _ x => x) (fun x => folded_pure (wpIt_set h1) x)
    exact loop_sound (K := Qn) (Qr := Qr) hA.handled f.e f.ha f.hL f.hne (fun hid' ρ' σ' K' s' ha hL hb st => S hb ⟨f.e, ha, hL, f.hne, st⟩) q fun fl s' q => q
  | _ => exact False.elim h
theorem snd_ss (S : SndSs C A n) (T : SndS C A n) : SndSs C A (n + 1) := fun {F sts ρ σ Qn Qr hid s} h f => by
  cases sts with
  | nil => exact wpAny_execs_nil (.next ρ σ (show Qn ρ σ from h) f.st (.refl s))
  | cons st r =>
    refine wpAny_execs_cons (wpAny_mono (T (show wpS C.g n F.cx st ρ σ (fun ρ σ => wpSs C.g n F.cx r ρ σ Qn Qr) Qr from h) f) (fun fl s1 q => ?_) fun _ _ x => x)
    cases q with
    | next ρ1 σ1 h1 st1 sp1 => exact ps_mono (S h1 ⟨f.e, f.ha, f.hL, f.hne, st1⟩) sp1
    | ret d σ ρ a b c e => exact .ret d σ ρ a b c e
theorem snds_all (hA : AOk A C.g.lvl) : ∀ n, SndS C A n ∧ SndSs C A n
  | 0 => ⟨fun h => False.elim h, fun h => False.elim h⟩
  | n + 1 => have S := snds_all hA n
    ⟨snd_s hA S.2, snd_ss S.2 S.1⟩
end

noncomputable def pz : List Str → List D → En
  | [] => fun _ => []
  | x :: xs => fun ds => (match ds with
    | [] => []
    | d :: ds => (x, d) :: pz xs ds)
noncomputable def selOf (sel : Str → Bool) : En → En
  | [] => []
  | (x, d) :: r => (match sel x with
    | true => (x, d) :: selOf sel r
    | false => selOf sel r)
noncomputable def locOf (names : List (Str × NameKind)) : En → En := selOf fun x => isLocalK (lk x names)
noncomputable def celOf (names : List (Str × NameKind)) : En → En := selOf fun x => !isLocalK (lk x names)
noncomputable def isCellK : Option NameKind → Bool
  | some .cell => true
  | _ => false
noncomputable def fnNames : List (Str × NameKind) → Bool
  | [] => true
  | (x, _) :: r => !seqb x sDebug && (!seqb x sClassdict && fnNames r)
noncomputable def fnPars (names : List (Str × NameKind)) : List Str → Bool
  | [] => true
  | x :: r => (isLocalK (lk x names) || isCellK (lk x names)) && (!inS x r && fnPars names r)
theorem isCellK_spec {k : Option NameKind} (h : isCellK k = true) : k = some .cell := by
  cases k with
  | none => cases h
  | some k => cases k <;> first | rfl | (cases h; done)
theorem fnNames_spec : ∀ {l : List (Str × NameKind)}, fnNames l = true → ∀ x k, (x, k) ∈ l → seqb x sDebug = false ∧ seqb x sClassdict = false
  | (y, j) :: r, h, x, k, hm => by
    obtain ⟨h1, h⟩ := Bool.and_eq_true_iff.mp h
    obtain ⟨h2, h⟩ := Bool.and_eq_true_iff.mp h
    rcases List.mem_cons.mp hm with e | hm
    · cases e; exact ⟨not_t h1, not_t h2⟩
    · exact fnNames_spec h x k hm
theorem fnPars_spec {names : List (Str × NameKind)} : ∀ {l : List Str}, fnPars names l = true → ∀ x ∈ l, lk x names = some .local ∨ lk x names = some .cell
  | y :: r, h, x, hm => by
    obtain ⟨h1, h⟩ := Bool.and_eq_true_iff.mp h
    rcases List.mem_cons.mp hm with rfl | hm
    · exact (Bool.or_eq_true_iff.mp h1).imp isLocalK_spec isCellK_spec
    · exact fnPars_spec (Bool.and_eq_true_iff.mp h).2 x hm
theorem cellsFrom_some {x : Str} : ∀ (names : List (Str × NameKind)) (n : Nat) (acc : List (Str × Addr)), ((x, NameKind.cell) ∈ names ∨ (acc.lookup x).isSome = true) → ((cellsFrom n names acc).lookup x).isSome = true
  | [], _, _, h => by
    rcases h with h | h
    · nomatch h
    · exact h
  | (y, k) :: r, n, acc, h => by
    unfold cellsFrom
    split
    · rename_i hk
      refine cellsFrom_some r _ _ ?_
      by_cases e : x = y
      · subst e; exact .inr (by simp)
      · rcases h with h | h
        · rcases List.mem_cons.mp h with q | q
          · cases q; exact absurd rfl e
          · exact .inl q
        · right; rw [List.lookup_cons, beq_false_of_ne e]; exact h
    · rename_i hk
      refine cellsFrom_some r _ _ ?_
      rcases h with h | h
      · rcases List.mem_cons.mp h with q | q
        · cases q; exact absurd rfl hk
        · exact .inl q
      · exact .inr h
section
variable {X : Wd} {h : Heap} {names : List (Str × NameKind)} {kindOf : Str → Option NameKind} {sel : Str → Bool}
noncomputable def updP (sel : Str → Bool) : List (Str × Value) → (Str → Option Value) → Str → Option Value
  | [], m => m
  | (n, v) :: r, m => updP sel r (match sel n with
    | true => fun y => if y = n then some v else m y
    | false => m)
theorem isLocalK_iff {k : Option NameKind} : isLocalK k = true ↔ k = some .local := ⟨isLocalK_spec, fun e => by rw [e]; rfl⟩
theorem bindL_upd (hk : ∀ x, kindOf x = lk x names) : ∀ (l : List (Str × Value)) (m : Str → Option Value), bindL kindOf l m = updP (fun x => isLocalK (lk x names)) l m
  | [], _ => rfl
  | (n, v) :: r, m => by
    show bindL kindOf r (if _ then _ else _) = updP _ r (match isLocalK (lk n names) with | true => _ | false => _)
    cases e : isLocalK (lk n names) with
    | true => rw [if_pos ((hk n).trans (isLocalK_spec e))]; exact bindL_upd hk r _
    | false => rw [if_neg (fun q => by rw [hk n] at q; rw [isLocalK_iff.mpr q] at e; cases e)]; exact bindL_upd hk r _
theorem bindC_upd (hk : ∀ x, kindOf x = lk x names) : ∀ (l : List (Str × Value)) (m : Str → Option Value), bindC kindOf l m = updP (fun x => !isLocalK (lk x names)) l m
  | [], _ => rfl
  | (n, v) :: r, m => by
    show bindC kindOf r (if _ then _ else _) = updP _ r (match !isLocalK (lk n names) with | true => _ | false => _)
    cases e : isLocalK (lk n names) with
    | true => rw [if_pos ((hk n).trans (isLocalK_spec e))]; exact bindC_upd hk r _
    | false => rw [if_neg (fun q => by rw [hk n] at q; rw [isLocalK_iff.mpr q] at e; cases e)]; exact bindC_upd hk r _
theorem updP_no {x : Str} : ∀ {xs : List Str} {vs : List Value} {m : Str → Option Value}, inS x xs = false → updP sel (xs.zip vs) m x = m x
  | [], _, _, _ => rfl
  | _ :: _, [], _, _ => rfl
  | y :: xs, v :: vs, m, hn => by
    have hn2 := inS_false hn
    have ne : x ≠ y := fun q => hn2 (q ▸ .head _)
    have hr : inS x xs = false := by
      unfold inS at hn
      rw [seqb_false ne] at hn; exact hn
    show updP sel (xs.zip vs) (match sel y with | true => _ | false => _) x = m x
    rw [updP_no hr]
    cases sel y
    · rfl
    · exact if_neg ne
theorem upd_rep : ∀ {xs : List Str} {ds : List D} {vs : List Value} {m : Str → Option Value}, fnPars names xs = true → RepL X h vs ds → ∀ x d, lk x (selOf sel (pz xs ds)) = some d → (sel x = true ∧ x ∈ xs) ∧ ValA X h (updP sel (xs.zip vs) m x) d
  | [], _, _, _, _, _, _, _, e => nomatch e
  | _ :: _, [], _, _, _, _, _, _, e => nomatch e
  | y :: xs, d :: ds, _, m, hp, r, x, d', e => by
    cases r with | @cons v vs a b =>
    obtain ⟨_, hp⟩ := Bool.and_eq_true_iff.mp hp
    obtain ⟨hno, hp⟩ := Bool.and_eq_true_iff.mp hp
    have e : lk x (match sel y with | true => (y, d) :: selOf sel (pz xs ds) | false => selOf sel (pz xs ds)) = some d' := e
    have step : ∀ m, lk x (selOf sel (pz xs ds)) = some d' → (sel x = true ∧ x ∈ y :: xs) ∧ ValA X h (updP sel (xs.zip vs) m x) d' := fun m e => by
      obtain ⟨⟨p1, p2⟩, p3⟩ := upd_rep (m := m) hp b x d' e
      exact ⟨⟨p1, .tail _ p2⟩, p3⟩
    cases hl : sel y with
    | false => rw [hl] at e; exact step _ e
    | true =>
      rw [hl] at e
      rcases ne_of_lk e with ⟨q, e2⟩ | ⟨q, e2⟩
      · cases e2
        refine ⟨⟨q ▸ hl, q ▸ .head _⟩, v, ?_, a⟩
        show updP sel (xs.zip vs) (match sel y with | true => _ | false => _) x = some v
        rw [updP_no (q ▸ not_t hno), hl]
        exact if_pos q
      · exact step _ e2
end

inductive FnObj (K : Frag) (a : Addr) (xs : List Str) (names : List (Str × NameKind)) (body : List Stmt) : Prop
  | mk (o : Obj) (fd : FuncData) (h1 : K.lookup a = some o) (h2 : o.data = .func fd) (h3 : fd.body = .stmts body) (h4 : fd.closure = []) (h5 : fd.globals = mainGlobals) (h6 : fd.builtins = builtinsNs) (h7 : codeIn K fd.code fd.qualname = true)
    (h8 : fd.scope.isCoroutine = false) (h9 : fd.scope.isGenerator = false) (h10 : fd.scope.kind = .function) (h11 : fd.scope.names = names) (h12 : ∀ vs : List Value, vs.length = xs.length → bindArgs fd ⟨vs, []⟩ = pure (xs.zip vs))
structure FnOk (K : Frag) (a : Addr) (xs : List Str) (names : List (Str × NameKind)) (body : List Stmt) : Prop where
  ob : FnObj K a xs names body
  nm : fnNames names = true
  pars : fnPars names xs = true
noncomputable def fcx (names : List (Str × NameKind)) (xs : List Str) (ds : List D) : Cx := ⟨names, celOf names (pz xs ds)⟩

section
variable {C : Cfg} {K : Frag} {A : Around} {hid : List Addr} {s : Shared} {a : Addr} {xs : List Str} {names : List (Str × NameKind)} {body : List Stmt} {vs : List Value} {ds : List D} {σ : Sg} {Q : D → Sg → Prop} {n : Nat}
theorem call_fn (hK : ∀ {h : Heap}, C.Base h → K.In h) (hlim : ∀ {h : Heap}, C.Base h → h.NoLimit) (F : FnOk K a xs names body) (hA : AOk A (C.g.lvl + 1)) (base : C.Base (hideAll s.heap hid)) (ha : C.aw ∈ hid) (live : Live hid s.heap)
    (rs : RepL C.toWd (hideAll s.heap hid) vs ds) (well : WellAt C.toWd hid s.heap σ) (hlen : ds.length = xs.length)
    (vc : wpSs C.g n (fcx names xs ds) body (locOf names (pz xs ds)) σ (fun _ σ => Q .none σ) Q) :
    wpAny (model C.prog C.w) A (call (.ref a) vs) (PC C.toWd hid Q s) NoE s := by
  cases F with | mk ob nm pars =>
  cases ob with | mk o fd ho hd hb hclo hgl hbu hcode hco hgen hk hnm hbind =>
  have hvl : vs.length = xs.length := rs.length.trans hlen
  have baseS : C.Base s.heap := C.keeps base (stays_out hid)
  have hkl : ∀ x, fd.scope.names.lookup x = lk x names := fun x => by rw [hnm, lk_lookup]
  refine wpAny_call (codeAny_call_cells (binds := xs.zip vs) (Nat.lt_trans (by have := hA.depth; (first | lia | omega) : A.depth < 900) (by decide)) (hK baseS _ _ ho) hd (hlim baseS) (codeRec_of (hK baseS) hcode) hb (hbind vs hvl) hclo (fun x hx => ?_) (fun s₁ x => ?_) hco hgen hk)
  · rcases fnPars_spec pars x.1 (List.of_mem_zip hx).1 with h | h
    · exact .inl ((hkl _).trans h)
    · exact .inr ⟨(hkl _).trans h, cellsFrom_some _ _ _ (.inl (by rw [hnm]; exact lk_mem h))⟩
  · obtain ⟨h₁, tk, rfl, keep⟩ := x.done
    generalize hLe : s.heap.objs.size = L at *
    have hLn : s.heap.get? L = none := Heap.get?_none_of_le (by rw [hLe]; exact Nat.le_refl _)
    have hLh : L ∉ hid := fun q => live_none hLn (live _ q)
    have hns := x.toInCall.ns
    have kp : s.heap.StaysIn h₁ := fun b o e => keep b o e
    have fz : (hideAll s.heap hid).StaysIn (hideAll h₁ (L :: hid)) := fun b o e => hideAll_get _ (kp b o (of_hideAll _ e)) fun q => by
      rcases List.mem_cons.mp q with rfl | q
      · rw [of_hideAll _ e] at hLn; cases hLn
      · exact not_hid e q
    have hkind : ∀ y, (callEnvC fd L a).kindOf y = lk y names := fun y => hkl y
    have dbg : ∀ y k, lk y names = some k → (y == ("__debug__" : Str)) = false := fun y k hy => by
      rw [← sDebug_is]; exact ne_of_seqb (fnNames_spec nm y k (lk_mem hy)).1
    have cld : ∀ y k, lk y names = some k → (y == ("__classdict__" : Str)) = false := fun y k hy => by
      rw [← sClassdict_is]; exact ne_of_seqb (fnNames_spec nm y k (lk_mem hy)).2
    have rs1 := RepL.keeps rs fz
    let F : Fm := ⟨fcx names xs ds, callEnvC fd L a, L⟩
    have st : St C F (L :: hid) (locOf names (pz xs ds)) σ h₁ := by
      refine ⟨C.keeps base fz, fun b q => ?_, ⟨_, hns, fun y d e => ?_⟩, fun y d e => (upd_rep (m := fun _ => none) pars rs1 y d e).1.1, fun y d e => ?_, well.move fz fun o e => kp _ o e⟩
      · rcases List.mem_cons.mp q with rfl | q
        · exact ns_live hns
        · exact live_stays live kp b q
      · rw [bindL_upd hkind]
        exact (upd_rep pars rs1 y d e).2
      · obtain ⟨⟨p1, p2⟩, p3⟩ := upd_rep (m := fun _ => none) pars rs1 y d e
        cases p3 with | mk v hv rv =>
        have hyc : lk y names = some .cell := by
          rcases fnPars_spec pars y p2 with h | h
          · rw [h] at p1; cases p1
          · exact h
        obtain ⟨c, hc⟩ := Option.isSome_iff_exists.mp (cellsFrom_some fd.scope.names (L + 1) [] (.inl (by rw [hnm]; exact lk_mem hyc)))
        obtain ⟨oc, hoc, hdc⟩ := x.cell y c hc
        have hLc : L < c := x.above y c (mem_of_lookup hc)
        refine ⟨c, oc, v, hc, .inl ((hkind y).trans hyc), dbg y _ hyc, cld y _ hyc, hideAll_get _ hoc fun q => ?_, ?_, rv⟩
        · rcases List.mem_cons.mp q with q | q
          · exact Nat.ne_of_gt hLc q
          · exact fresh_of live (by rw [hLe]; exact Nat.le_of_lt hLc) q
        · rw [hdc, bindC_upd hkind]; exact congrArg _ hv
    have he : EnvOk F := ⟨hk, rfl, hgl, hbu, fun y k hy _ => (hkind y).trans hy, dbg⟩
    have hA' : AOk (A.deeper (callEnvC fd L a)) C.g.lvl := ⟨hA.handled, by have := hA.depth; show A.depth + 1 + C.g.lvl < 900; (first | lia | omega), by have := hA.units; rw [Around.deeper_units]; (first | lia | omega)⟩
    refine wpAny_mono ((snds_all (C := C) hA' n).2 (F := F) (s := { s with heap := h₁, toks := tk }) vc ⟨he, .tail _ ha, .head _, fun e => hLh (show L ∈ hid from (show C.aw = L from e) ▸ ha), st⟩) (fun f s' q => ?_) fun _ _ z => z.elim
    have up : ∀ {s' : Shared}, Step C.aw L { s with heap := h₁, toks := tk } s' → StepC C.aw s s' := fun sp => ⟨fun b o n e => sp.keep b o (fun q => by
      rcases List.mem_cons.mp q with rfl | q
      · exact n (.head _)
      · rw [List.mem_singleton.mp q, hLn] at e; cases e) (kp b o e), by rw [sp.same]⟩
    have sub : ∀ h, (hideAll h (L :: hid)).StaysIn (hideAll h hid) := fun h => hideAll_sub h fun a q => .tail _ q
    cases q with
    | next ρ' σ' hq st' sp => exact ⟨.none, σ', hq, .none, st'.well.move (sub _) (fun _ e => e), up sp⟩
    | ret d σ' ρ' hq rv st' sp => exact ⟨d, σ', hq, rv.keeps (sub _), st'.well.move (sub _) (fun _ e => e), up sp⟩
end

theorem loop2 {bind : D → En → (En → Prop) → Prop} {body : En → Sg → (En → Sg → Prop) → Prop} {K : En → Sg → Prop} {d1 d2 : D} {ρ : En} {σ : Sg}
    (t1 : ∀ K' : En → Sg → Prop, (∀ ρ2, reN ρ ρ2 = ρ → K' ρ2 σ) → bind d1 ρ fun ρ1 => body ρ1 σ K') (t2 : ∀ K' : En → Sg → Prop, (∀ ρ2, reN ρ ρ2 = ρ → K' ρ2 σ) → bind d2 ρ fun ρ1 => body ρ1 σ K') (fin : K ρ σ) : ForI bind body [d1, d2] ρ σ K :=
  .mk (t1 _ fun ρ2 h => by rw [h]; exact t2 _ fun ρ3 h3 => by rw [h3]; exact fin)
theorem loop_list {bind : D → En → (En → Prop) → Prop} {body : En → Sg → (En → Sg → Prop) → Prop} {K : En → Sg → Prop} (I : Nat → En → Sg → Prop) (all : List D)
    (step : ∀ i d ρ σ, all[i]? = some d → I i ρ σ → ∀ K' : En → Sg → Prop, (∀ ρ2 σ, I (i + 1) (reN ρ ρ2) σ → K' ρ2 σ) → bind d ρ fun ρ => body ρ σ K')
    (fin : ∀ ρ σ, I all.length ρ σ → K ρ σ) : ∀ (ds : List D) (i : Nat) (ρ : En) (σ : Sg), all.drop i = ds → i ≤ all.length → I i ρ σ → loopW bind body ds ρ σ K
  | [], i, ρ, σ, e, hi, h => by
    have : i = all.length := Nat.le_antisymm hi (List.drop_eq_nil_iff.mp e)
    subst this
    exact fin ρ σ h
  | d :: ds, i, ρ, σ, e, hi, h => by
    have hlt : i < all.length := Nat.lt_of_not_le fun q => by rw [List.drop_eq_nil_iff.mpr q] at e; cases e
    have e2 := List.drop_eq_getElem_cons hlt
    rw [e] at e2
    injection e2 with h1 h2
    refine step i d ρ σ (by rw [h1]; exact List.getElem?_eq_getElem hlt) h _ fun ρ2 σ h' => ?_
    exact loop_list I all step fin ds (i + 1) (reN ρ ρ2) σ h2.symm hlt h'
theorem loop_range {bind : D → En → (En → Prop) → Prop} {body : En → Sg → (En → Sg → Prop) → Prop} {K : En → Sg → Prop} {n : Nat} {ρ : En} {σ : Sg} (I : Nat → En → Sg → Prop)
    (h0 : I 0 ρ σ) (step : ∀ i ρ σ, i < n → I i ρ σ → ∀ K' : En → Sg → Prop, (∀ ρ2 σ, I (i + 1) (reN ρ ρ2) σ → K' ρ2 σ) → bind (.int (Int.ofNat i)) ρ fun ρ => body ρ σ K')
    (fin : ∀ ρ σ, I n ρ σ → K ρ σ) : loopW bind body (rangeD n) ρ σ K := by
  have hl : (rangeD n).length = n := rangeF_length n 0
  refine loop_list I (rangeD n) (fun i d ρ σ hd h => ?_) (fun ρ σ h => fin ρ σ (hl ▸ h)) _ 0 ρ σ rfl (Nat.zero_le _) h0
  have hlt : i < n := hl ▸ (List.getElem?_eq_some_iff.mp hd).1
  have := rangeF_get n 0 i hlt
  rw [show rangeF 0 n = rangeD n from rfl, hd] at this
  cases this
  rw [Nat.zero_add]
  exact step i ρ σ hlt h
end Mine.Internal

end
section
open PySem PySem.W
set_option Elab.async false
set_option tactic.hygienic false
set_option backward.match.sparseCases false
set_option bootstrap.genMatcherCode false
namespace Mine.Internal
inductive Opd where
  | k (v : Int)
  | r (i : Nat)
noncomputable def Opd.d : Opd → D
  | .k v => .tup [.str ⟨#[107]⟩, .int v]
  | .r i => .tup [.str ⟨#[114]⟩, .int (Int.ofNat i)]
inductive O2 where
  | add | sub | mul | div | divu | rem | remu | and | or | xor | shl | shr | sar | lt | ltu | eq | ne
inductive O1 where
  | neg | not | sx8 | sx16 | zx8 | zx16
noncomputable def O2.nm : O2 → Str
  | .add => ⟨#[97, 100, 100]⟩
  | .sub => ⟨#[115, 117, 98]⟩
  | .mul => ⟨#[109, 117, 108]⟩
  | .div => ⟨#[100, 105, 118]⟩
  | .divu => ⟨#[100, 105, 118, 117]⟩
  | .rem => ⟨#[114, 101, 109]⟩
  | .remu => ⟨#[114, 101, 109, 117]⟩
  | .and => ⟨#[97, 110, 100]⟩
  | .or => ⟨#[111, 114]⟩
  | .xor => ⟨#[120, 111, 114]⟩
  | .shl => ⟨#[115, 104, 108]⟩
  | .shr => ⟨#[115, 104, 114]⟩
  | .sar => ⟨#[115, 97, 114]⟩
  | .lt => ⟨#[108, 116]⟩
  | .ltu => ⟨#[108, 116, 117]⟩
  | .eq => ⟨#[101, 113]⟩
  | .ne => ⟨#[110, 101]⟩
noncomputable def O1.nm : O1 → Str
  | .neg => ⟨#[110, 101, 103]⟩
  | .not => ⟨#[110, 111, 116]⟩
  | .sx8 => ⟨#[115, 120, 56]⟩
  | .sx16 => ⟨#[115, 120, 49, 54]⟩
  | .zx8 => ⟨#[122, 120, 56]⟩
  | .zx16 => ⟨#[122, 120, 49, 54]⟩
inductive Shp where
  | two (o : O2) (a b : Opd)
  | one (o : O1) (a : Opd)
  | load (w : Int) (s : Bool)
  | name (y : Bool) (off : Int)
  | const (a : Opd)
  | copy (a : Opd)
noncomputable def xy : Bool → Str
  | false => ⟨#[120]⟩
  | true => ⟨#[121]⟩
noncomputable def Shp.d : Shp → D
  | .two o a b => .tup [.str o.nm, .lst [a.d, b.d], .int 0]
  | .one o a => .tup [.str o.nm, .lst [a.d], .int 0]
  | .load w s => .tup [.str ⟨#[108, 111, 97, 100]⟩, .lst [Opd.d (.r 0)], .tup [.int w, .bool s]]
  | .name y off => .tup [.str ⟨#[110, 97, 109, 101]⟩, .lst [], .tup [.str (xy y), .int off]]
  | .const a => .tup [.str ⟨#[99, 111, 110, 115, 116]⟩, .lst [a.d], .int 0]
  | .copy a => .tup [.str ⟨#[99, 111, 112, 121]⟩, .lst [a.d], .int 0]

noncomputable abbrev M32 : Int := 4294967296
noncomputable def W32 (x : Int) : Prop := 0 ≤ x ∧ x < 4294967296
noncomputable def wr (x : Int) : Int := x % 4294967296
noncomputable def sg (x : Int) : Int := if 2147483648 ≤ x then x - 4294967296 else x
noncomputable def b2i (b : Bool) : Int := if b then 1 else 0
noncomputable def shQ (x y : Int) : Int := wr (if (x < 0) = (y < 0) then (x.natAbs / y.natAbs : Nat) else - (x.natAbs / y.natAbs : Nat))
noncomputable def shR (x y : Int) : Int := wr (if 0 ≤ x then (x.natAbs % y.natAbs : Nat) else - (x.natAbs % y.natAbs : Nat))
noncomputable def sem2 (o : O2) (x y : Int) : Option Int := match o with
  | .add => some (wr (x + y))
  | .sub => some (wr (x - y))
  | .mul => some (wr (x * y))
  | .div => if sg y = 0 ∨ (sg x = -2147483648 ∧ sg y = -1) then none else some (shQ (sg x) (sg y))
  | .rem => if sg y = 0 ∨ (sg x = -2147483648 ∧ sg y = -1) then none else some (shR (sg x) (sg y))
  | .divu => if y = 0 then none else some (shQ x y)
  | .remu => if y = 0 then none else some (shR x y)
  | .and => some (Builtin.bitAnd x y)
  | .or => some (x + y - Builtin.bitAnd x y)
  | .xor => some (x + y - 2 * Builtin.bitAnd x y)
  | .shl => some (wr (x * 2 ^ (y % 32).toNat))
  | .shr => some (wr (x / 2 ^ (y % 32).toNat))
  | .sar => some (wr (sg x / 2 ^ (y % 32).toNat))
  | .lt => some (b2i (decide (sg x < sg y)))
  | .ltu => some (b2i (decide (x < y)))
  | .eq => some (b2i (decide (x = y)))
  | .ne => some (b2i (!decide (x = y)))
noncomputable def ext (s : Bool) (m : Int) (x : Int) : Int := wr (if s && decide (m / 2 ≤ x % m) then x % m - m else x % m)
noncomputable def sem1 (o : O1) (x : Int) : Int := match o with
  | .neg => wr (0 - x)
  | .not => 4294967295 - x
  | .sx8 => ext true 256 x
  | .sx16 => ext true 65536 x
  | .zx8 => ext false 256 x
  | .zx16 => ext false 65536 x
noncomputable def Opd.v (V : List Int) : Opd → Int
  | .k v => v
  | .r i => V.getD i 0
noncomputable def base (y : Bool) : Int := if y then 4294967200 else 4096
noncomputable def Shp.sem (V : List Int) : Shp → Option Int
  | .two o a b => sem2 o (a.v V) (b.v V)
  | .one o a => some (sem1 o (a.v V))
  | .load _ _ => none
  | .name y off => some (wr (base y + off))
  | .const a => some (a.v V)
  | .copy a => some (a.v V)

noncomputable def Opd.rk : Opd → Nat
  | .k _ => 0
  | .r i => i - 2
noncomputable def phi2 (o : O2) (a b : Opd) : Nat := match a, b with
  | .k _, .k _ => 1
  | .r i, .k _ => (match o with
    | .add => (i - 2) + 2
    | .sub => (i - 2) + 3
    | .mul => 2 * (i - 2) + 4
    | .div => (i - 2) + 4
    | .rem => (i - 2) + 4
    | .divu => (i - 2) + 3
    | .remu => (i - 2) + 3
    | .and => (i - 2) + 2
    | .or => (i - 2) + 2
    | .xor => (i - 2) + 2
    | .shl => (i - 2) + 2
    | .shr => (i - 2) + 2
    | .sar => (i - 2) + 3
    | .lt => 1
    | .ltu => 3 * (i - 2) + 4
    | .eq => 3 * (i - 2) + 3
    | .ne => 3 * (i - 2) + 4)
  | .k _, .r i => (match o with
    | .add => (i - 2) + 3
    | .sub => 2 * (i - 2) + 4
    | .mul => 2 * (i - 2) + 5
    | .div => 1
    | .rem => 1
    | .divu => 1
    | .remu => 1
    | .and => (i - 2) + 3
    | .or => (i - 2) + 3
    | .xor => (i - 2) + 3
    | .shl => 1
    | .shr => 1
    | .sar => 1
    | .lt => 1
    | .ltu => 3 * (i - 2) + 5
    | .eq => 3 * (i - 2) + 4
    | .ne => 3 * (i - 2) + 5)
  | .r i, .r j => (match o with
    | .add => (i - 2) + (j - 2) + 4
    | .sub => (i - 2) + (j - 2) + 4
    | .mul => 1
    | .div => 1
    | .rem => 1
    | .divu => 1
    | .remu => 1
    | .and => 1
    | .or => 1
    | .xor => 1
    | .shl => 1
    | .shr => 1
    | .sar => 1
    | .lt => 1
    | .ltu => 1
    | .eq => 1
    | .ne => 1)
noncomputable def phi1 (o : O1) (a : Opd) : Nat := match o with
  | .neg => 2 * a.rk + 3
  | .not => 1
  | .sx8 => (match a with | .k _ => 1 | .r i => (i - 2) + 1)
  | .sx16 => (match a with | .k _ => 1 | .r i => (i - 2) + 1)
  | .zx8 => (match a with | .k _ => 1 | .r i => (i - 2) + 1)
  | .zx16 => (match a with | .k _ => 1 | .r i => (i - 2) + 1)
noncomputable def Shp.phi : Shp → Nat
  | .two o a b => phi2 o a b
  | .one o a => phi1 o a
  | .load _ _ => 0
  | .name _ _ => 0
  | .const _ => 0
  | .copy (.k _) => 1
  | .copy (.r _) => 0

noncomputable def Opd.wf (m : Nat) : Opd → Prop
  | .k v => 0 ≤ v ∧ v < 4294967296
  | .r i => i < m
noncomputable def Shp.wf (m : Nat) : Shp → Prop
  | .two _ a b => a.wf m ∧ b.wf m
  | .one _ a => a.wf m
  | .load w _ => w = 1 ∨ w = 2 ∨ w = 4
  | .name _ _ => True
  | .const a => a.wf m
  | .copy a => a.wf m
noncomputable def loadOk (w : Int) (s : Bool) (x : Int) : Prop :=
  (w = 1 → (s = true → -128 ≤ sg x ∧ sg x ≤ 127) ∧ (s = false → x ≤ 255)) ∧ (w = 2 → (s = true → -32768 ≤ sg x ∧ sg x ≤ 32767) ∧ (s = false → x ≤ 65535))
noncomputable def look {α : Type} (i : Nat) : List (Nat × α) → Option α
  | [] => none
  | (j, s) :: r => if i = j then some s else look i r
noncomputable abbrev Fcs := List (Nat × Shp)
noncomputable def Fcs.d : Fcs → List (Int × D)
  | [] => []
  | (i, s) :: r => (Int.ofNat i, s.d) :: Fcs.d r
theorem lki_look {i : Nat} : ∀ {F : Fcs} {d : D}, lki (Int.ofNat i) F.d = some d → ∃ s, look i F = some s ∧ d = s.d
  | [], _, h => by simp [Fcs.d, lki] at h
  | (j, s) :: r, d, h => by
    simp only [Fcs.d, lki] at h
    simp only [look]
    by_cases e : i = j
    · subst e; simp at h; exact ⟨s, by simp, h.symm⟩
    · rw [if_neg (fun q => e (Int.ofNat.inj q))] at h
      rw [if_neg e]
      exact lki_look h
theorem lki_none {i : Nat} : ∀ {F : Fcs}, lki (Int.ofNat i) F.d = none → look i F = none
  | [], _ => rfl
  | (j, s) :: r, h => by
    simp only [Fcs.d, lki] at h
    simp only [look]
    by_cases e : i = j
    · subst e; simp at h
    · rw [if_neg (fun q => e (Int.ofNat.inj q))] at h
      rw [if_neg e]
      exact lki_none h
structure Con (V : List Int) (F : Fcs) : Prop where
  len : V.length ≤ 9
  w : ∀ i, i < V.length → W32 (V.getD i 0)
  idx : ∀ i s, look i F = some s → 3 ≤ i ∧ i < V.length
  wf : ∀ i s, look i F = some s → s.wf i
  kind : ∀ i s, look i F = some s → (∃ o a b, s = .two o a b) ∨ (∃ o a, s = .one o a) ∨ (∃ w sg, s = .load w sg) ∨ ∃ y off, s = .name y off
  sem : ∀ i s, look i F = some s → (∀ w sg, s = .load w sg → loadOk w sg (V.getD i 0)) ∧ ((∀ w sg, s ≠ .load w sg) → s.sem V = some (V.getD i 0))

structure Ok (V : List Int) (s s' : Shp) : Prop where
  wf : s'.wf V.length
  nl : ∀ w sg, s' ≠ .load w sg
  sem : ∀ x, s.sem V = some x → s'.sem V = some x
  phi : s'.phi < s.phi
end Mine.Internal

end
section
open PySem PySem.W
set_option Elab.async false
set_option tactic.hygienic false
set_option backward.match.sparseCases false
set_option bootstrap.genMatcherCode false
namespace Mine.Internal

noncomputable def o2of (t : Str) : Option O2 :=
  match seqb t ⟨#[97, 100, 100]⟩ with | true => some .add | false => (match seqb t ⟨#[115, 117, 98]⟩ with | true => some .sub | false => (match seqb t ⟨#[109, 117, 108]⟩ with | true => some .mul | false => (match seqb t ⟨#[100, 105, 118]⟩ with | true => some .div | false => (match seqb t ⟨#[100, 105, 118, 117]⟩ with | true => some .divu | false => (match seqb t ⟨#[114, 101, 109]⟩ with | true => some .rem | false => (match seqb t ⟨#[114, 101, 109, 117]⟩ with | true => some .remu | false => (match seqb t ⟨#[97, 110, 100]⟩ with | true => some .and | false => (match seqb t ⟨#[111, 114]⟩ with | true => some .or | false => (match seqb t ⟨#[120, 111, 114]⟩ with | true => some .xor | false => (match seqb t ⟨#[115, 104, 108]⟩ with | true => some .shl | false => (match seqb t ⟨#[115, 104, 114]⟩ with | true => some .shr | false => (match seqb t ⟨#[115, 97, 114]⟩ with | true => some .sar | false => (match seqb t ⟨#[108, 116]⟩ with | true => some .lt | false => (match seqb t ⟨#[108, 116, 117]⟩ with | true => some .ltu | false => (match seqb t ⟨#[101, 113]⟩ with | true => some .eq | false => (match seqb t ⟨#[110, 101]⟩ with | true => some .ne | false => none))))))))))))))))

noncomputable def o1of (t : Str) : Option O1 :=
  match seqb t ⟨#[110, 101, 103]⟩ with | true => some .neg | false => (match seqb t ⟨#[110, 111, 116]⟩ with | true => some .not | false => (match seqb t ⟨#[115, 120, 56]⟩ with | true => some .sx8 | false => (match seqb t ⟨#[115, 120, 49, 54]⟩ with | true => some .sx16 | false => (match seqb t ⟨#[122, 120, 56]⟩ with | true => some .zx8 | false => (match seqb t ⟨#[122, 120, 49, 54]⟩ with | true => some .zx16 | false => none)))))

theorem o2of_nm (o : O2) : o2of o.nm = some o := by cases o <;> rfl
theorem o1of_nm (o : O1) : o1of o.nm = some o := by cases o <;> rfl
theorem wif2 {o p : O2} {t : Str} {P Q : Prop} (ht : o2of t = some p) (h1 : o = p → P) (h2 : seqb o.nm t = false → Q) : WIf (seqb o.nm t) P Q :=
  .mk (fun h => h1 (by rw [← seqb_iff.mp h, o2of_nm] at ht; exact Option.some.inj ht)) (h2)
theorem wif2n {o : O2} {t : Str} {P Q : Prop} (ht : o2of t = none) (h2 : Q) : WIf (seqb o.nm t) P Q :=
  .mk (fun h => (by rw [← seqb_iff.mp h, o2of_nm] at ht; cases ht)) (fun _ => h2)
theorem wif1 {o p : O1} {t : Str} {P Q : Prop} (ht : o1of t = some p) (h1 : o = p → P) (h2 : seqb o.nm t = false → Q) : WIf (seqb o.nm t) P Q :=
  .mk (fun h => h1 (by rw [← seqb_iff.mp h, o1of_nm] at ht; exact Option.some.inj ht)) (h2)
theorem wif1n {o : O1} {t : Str} {P Q : Prop} (ht : o1of t = none) (h2 : Q) : WIf (seqb o.nm t) P Q :=
  .mk (fun h => (by rw [← seqb_iff.mp h, o1of_nm] at ht; cases ht)) (fun _ => h2)
theorem wifin2 {o : O2} {l : List (Str × D)} {P Q : Prop} (h1 : ∀ p, (lk (O2.nm p) l).isSome = true → o = p → P) (h2 : (lk o.nm l).isSome = false → Q) : WIf (lk o.nm l).isSome P Q :=
  .mk (fun h => h1 o h rfl) (h2)
theorem wifin1 {o : O1} {l : List (Str × D)} {P Q : Prop} (h1 : ∀ p, (lk (O1.nm p) l).isSome = true → o = p → P) (h2 : (lk o.nm l).isSome = false → Q) : WIf (lk o.nm l).isSome P Q :=
  .mk (fun h => h1 o h rfl) (h2)
theorem wifany2 {o : O2} {l : List D} {P Q : Prop} (h1 : ∀ p, anyEq (.str (O2.nm p)) l = true → o = p → P) (h2 : anyEq (.str o.nm) l = false → Q) : WIf (anyEq (.str o.nm) l) P Q :=
  .mk (fun h => h1 o h rfl) (h2)
theorem wifany1 {o : O1} {l : List D} {P Q : Prop} (h1 : ∀ p, anyEq (.str (O1.nm p)) l = true → o = p → P) (h2 : anyEq (.str o.nm) l = false → Q) : WIf (anyEq (.str o.nm) l) P Q :=
  .mk (fun h => h1 o h rfl) (h2)
theorem WIf.on {b : Bool} {P Q : Prop} (h : b = true) (p : P) : WIf b P Q := .mk (fun _ => p) (fun e => (by rw [h] at e; cases e))
theorem WIf.off {b : Bool} {P Q : Prop} (h : b = false) (q : Q) : WIf b P Q := .mk (fun e => (by rw [h] at e; cases e)) (fun _ => q)
noncomputable def opdK (d : D) (K : Opd → Option Shp) : Option Shp := match d with
  | .tup [.str t, .int v] => (match seqb t ⟨#[107]⟩ with
    | true => K (.k v)
    | false => (match v with | .ofNat i => (match seqb t ⟨#[114]⟩ with | true => K (.r i) | false => none) | .negSucc _ => none))
  | _ => none

noncomputable def toShp (d : D) : Option Shp := match d with
  | .tup [.str t, .lst [a, b], _] => opdK a fun a => opdK b fun b => (match o2of t with | some o => some (.two o a b) | none => none)
  | .tup [.str t, .lst [a], _] => opdK a fun a => (match seqb t ⟨#[99, 111, 110, 115, 116]⟩ with
    | true => some (.const a)
    | false => (match seqb t ⟨#[99, 111, 112, 121]⟩ with
      | true => some (.copy a)
      | false => (match o1of t with | some o => some (.one o a) | none => none)))
  | .tup [.str _, .lst [], .tup [.str y, .int off]] => (match seqb y ⟨#[121]⟩ with | true => some (.name true off) | false => some (.name false off))
  | _ => none

inductive RP (V : List Int) (s : Shp) (σ : Sg) : D → Sg → Prop
  | none : RP V s σ .none σ
  | some {d : D} {s' : Shp} : toShp d = Option.some s' → d = s'.d → Ok V s s' → RP V s σ d σ
theorem wm_fac {V : List Int} {F : Fcs} {i : Nat} {P : D → Prop} {Q : Prop} (hc : Con V F)
    (two : ∀ o x y, look i F = some (.two o x y) → P (Shp.two o x y).d) (one : ∀ o x, look i F = some (.one o x) → P (Shp.one o x).d)
    (ld : ∀ w s, look i F = some (.load w s) → P (Shp.load w s).d) (nx : ∀ off, look i F = some (.name false off) → P (Shp.name false off).d) (ny : ∀ off, look i F = some (.name true off) → P (Shp.name true off).d)
    (no : look i F = none → Q) : WM (lki (Int.ofNat i) F.d) P Q := by
  refine ⟨fun d hd => ?_, fun h => no (lki_none h)⟩
  obtain ⟨s, hs, rfl⟩ := lki_look hd
  rcases hc.kind i s hs with ⟨o, a, b, rfl⟩ | ⟨o, a, rfl⟩ | ⟨w, sg, rfl⟩ | ⟨y, off, rfl⟩
  · exact two _ _ _ hs
  · exact one _ _ hs
  · exact ld _ _ hs
  · cases y
    · exact nx _ hs
    · exact ny _ hs
end Mine.Internal

end
section
open PySem PySem.W PyProof.Rows
set_option Elab.async false
set_option tactic.hygienic false
set_option backward.match.sparseCases false
set_option bootstrap.genMatcherCode false
namespace Mine.Internal
theorem wr_lo (x : Int) : 0 ≤ wr x := by unfold wr; (first | lia | omega)
theorem wr_hi (x : Int) : wr x < 4294967296 := by unfold wr; (first | lia | omega)
theorem wr_id {x : Int} (h : W32 x) : wr x = x := by unfold wr; unfold W32 at h; (first | lia | omega)
theorem nat_and_mask (n : Nat) : n &&& 4294967295 = n % 4294967296 := Nat.and_two_pow_sub_one_eq_mod n 32
theorem wr_of {a b : Int} (k : Int) (h : a = b + 4294967296 * k) : wr a = wr b := by rw [h]; exact Int.add_mul_emod_self_left _ _ _
theorem wr_k (x : Int) : wr x = x + 4294967296 * -(x / 4294967296) := by unfold wr; rw [Int.emod_def, Int.mul_neg, Int.sub_eq_add_neg]
theorem wr_add_l (x y : Int) : wr (wr x + y) = wr (x + y) := wr_of _ (by rw [wr_k, Int.add_right_comm])
theorem wr_add_r (x y : Int) : wr (x + wr y) = wr (x + y) := wr_of _ (by rw [wr_k y, Int.add_assoc])
theorem wr_neg (x : Int) : wr (-wr x) = wr (-x) := wr_of (x / 4294967296) (by rw [wr_k, Int.neg_add, Int.mul_neg, Int.neg_neg])
theorem wr_sub_l (x y : Int) : wr (wr x - y) = wr (x - y) := wr_add_l x (-y)
theorem wr_sub_r (x y : Int) : wr (x - wr y) = wr (x - y) := by rw [Int.sub_eq_add_neg, ← wr_add_r, wr_neg, wr_add_r, Int.sub_eq_add_neg]
theorem wr_M (x y : Int) : wr (x + (y - 4294967296)) = wr (x + y) := wr_of (-1) (by (first | lia | omega))
theorem mask (x : Int) : Builtin.bitAnd x 4294967295 = wr x := by
  unfold wr
  by_cases h : 0 ≤ x
  · rw [bitAnd_pp h (by decide)]
    have : (4294967295 : Int).toNat = 4294967295 := rfl
    rw [this, nat_and_mask]
    (first | lia | omega)
  · rw [bitAnd_np h (by decide)]
    have e : (4294967295 : Int).toNat = 4294967295 := rfl
    have : (4294967295 &&& (Builtin.bitNot x).toNat) = (Builtin.bitNot x).toNat % 4294967296 := by rw [Nat.and_comm, nat_and_mask]
    rw [e, this]
    unfold Builtin.bitNot
    (first | lia | omega)
section
variable {V : List Int} {F : Fcs} {i j : Nat} {o : O2} {o1 : O1} {a b p q z : Opd} {u v c : Int}
theorem v_k : Opd.v V (.k v) = v := rfl
theorem v_r : Opd.v V (.r i) = V.getD i 0 := rfl
theorem Opd.W (hc : Con V F) (h : a.wf V.length) : W32 (a.v V) := by
  cases a with
  | k v => exact h
  | r i => exact hc.w i h
theorem Opd.wf.up {m n : Nat} (h : a.wf m) (l : m ≤ n) : a.wf n := by
  cases a with
  | k v => exact h
  | r i => exact Nat.lt_of_lt_of_le h l
theorem Con.two (hc : Con V F) (hf : look i F = some (.two o a b)) : 3 ≤ i ∧ i < V.length ∧ a.wf i ∧ b.wf i ∧ a.wf V.length ∧ b.wf V.length ∧ sem2 o (a.v V) (b.v V) = some (V.getD i 0) := by
  obtain ⟨h1, h2⟩ := hc.idx _ _ hf
  obtain ⟨h3, h4⟩ : a.wf i ∧ b.wf i := hc.wf _ _ hf
  exact ⟨h1, h2, h3, h4, h3.up (Nat.le_of_lt h2), h4.up (Nat.le_of_lt h2), (hc.sem _ _ hf).2 (fun _ _ e => by cases e)⟩
theorem Con.one (hc : Con V F) (hf : look i F = some (.one o1 a)) : 3 ≤ i ∧ i < V.length ∧ a.wf i ∧ a.wf V.length ∧ sem1 o1 (a.v V) = V.getD i 0 := by
  obtain ⟨h1, h2⟩ := hc.idx _ _ hf
  have h3 : a.wf i := hc.wf _ _ hf
  exact ⟨h1, h2, h3, h3.up (Nat.le_of_lt h2), Option.some.inj ((hc.sem _ _ hf).2 (fun _ _ e => by cases e))⟩
theorem rk_lt (h : a.wf i) (h3 : 3 ≤ i) : a.rk < i - 2 := by
  cases a with
  | k v => show 0 < i - 2; (first | lia | omega)
  | r x => have : x < i := h; show x - 2 < i - 2; (first | lia | omega)
noncomputable def sameS : Opd → Shp
  | .k v => .const (.k v)
  | .r x => .copy (.r x)
theorem sameS_phi : (sameS a).phi = 0 := by cases a <;> rfl
theorem sameS_sem : (sameS a).sem V = some (a.v V) := by cases a <;> rfl
theorem sameS_wf (h : a.wf V.length) : (sameS a).wf V.length := by cases a <;> exact h
theorem sameS_nl (w s) : sameS a ≠ .load w s := by cases a <;> (intro h; cases h)
theorem ok_same {s : Shp} (hw : a.wf V.length) (hs : ∀ x, s.sem V = some x → x = a.v V) (hp : 0 < s.phi) : Ok V s (sameS a) :=
  ⟨sameS_wf hw, sameS_nl, fun x h => by rw [sameS_sem, hs x h], by rw [sameS_phi]; exact hp⟩
theorem ok_told {s : Shp} {n : Int} (hn : W32 n) (hs : ∀ x, s.sem V = some x → x = n) (hp : 0 < s.phi) : Ok V s (.const (.k (Builtin.bitAnd n 4294967295))) :=
  ⟨by show 0 ≤ _ ∧ _; rw [mask]; exact ⟨wr_lo _, wr_hi _⟩, (fun _ _ h => by cases h), fun x h => by rw [hs x h]; show some _ = _; rw [show (Opd.k (Builtin.bitAnd n 4294967295)).v V = Builtin.bitAnd n 4294967295 from rfl, mask, wr_id hn], hp⟩
theorem phi2_pos : 0 < phi2 o a b := by
  cases a <;> cases b <;> cases o <;> exact Nat.succ_pos _
theorem two_pos : 0 < (Shp.two o a b).phi := phi2_pos
theorem eqb_opd (h : eqb a.d b.d = true) : a = b := by
  cases a with
  | k u =>
    cases b with
    | k v => simp [Opd.d, eqb, eqbs, seqb_self] at h; rw [h]
    | r j => simp [Opd.d, eqb, eqbs, seqb, lbeq] at h
  | r i =>
    cases b with
    | k v => simp [Opd.d, eqb, eqbs, seqb, lbeq] at h
    | r j => simp [Opd.d, eqb, eqbs, seqb_self] at h; rw [Int.ofNat.inj h]
theorem of_dec {P : Prop} {_ : Decidable P} (h : decide P = true) : P := of_decide_eq_true h

theorem ok_add_0 (hi : i < V.length) (hc : Con V F) (h0 : decide (v = Int.ofNat 0) = true) : Ok V (.two .add (.r i) (.k v)) (.copy (.r i)) := by
  have h0 : v = 0 := of_dec h0
  subst h0
  refine ok_same (a := .r i) hi (fun x h => ?_) two_pos
  have hw := hc.w i hi
  simp only [Shp.sem, sem2, Option.some.injEq] at h
  rw [← h]
  rw [v_k, v_r, Int.add_zero, wr_id hw]
theorem ok_add_add (hc : Con V F) (hb : W32 v) (hf : look i F = some (.two .add a (.k u))) : Ok V (.two .add (.r i) (.k v)) (.two .add a (.k (Builtin.bitAnd (u + v) 4294967295))) := by
  obtain ⟨h3, hi, ha, hu, ha', _, hs⟩ := hc.two hf
  rw [mask]
  refine ⟨⟨ha', wr_lo _, wr_hi _⟩, (fun _ _ h => by cases h), fun x h => ?_, ?_⟩
  · simp only [Shp.sem, sem2, Option.some.injEq, v_k, v_r] at h hs ⊢
    rw [← hs] at h
    rw [← h]
    rw [wr_add_r, wr_add_l, Int.add_assoc]
  · have := rk_lt ha h3
    cases a with
    | k _ => show 1 < i - 2 + 2; (first | lia | omega)
    | r x => have : x - 2 < i - 2 := this; show x - 2 + 2 < i - 2 + 2; (first | lia | omega)
theorem ok_add_name {y : Bool} {off t : Int} (hc : Con V F) (hf : look i F = some (.name y off)) (ht : t = Builtin.bitAnd (off + v) 4294967295 - 4294967296 ∨ t = Builtin.bitAnd (off + v) 4294967295) : Ok V (.two .add (.r i) (.k v)) (.name y t) := by
  have hs := (hc.sem _ _ hf).2 (fun _ _ e => by cases e)
  rw [mask] at ht
  refine ⟨trivial, (fun _ _ h => by cases h), fun x h => ?_, two_pos⟩
  simp only [Shp.sem, sem2, Option.some.injEq, v_k, v_r] at h hs ⊢
  rw [← h, ← hs]
  rcases ht with rfl | rfl
  · rw [wr_M, wr_add_r, wr_add_l, Int.add_assoc]
  · rw [wr_add_r, wr_add_l, Int.add_assoc]
theorem ok_add_neg {i0 j : Nat} (hc : Con V F) (hi : i0 < V.length) (hf : look j F = some (.one .neg z)) : Ok V (.two .add (.r i0) (.r j)) (.two .sub (.r i0) z) := by
  obtain ⟨h3, hj, hz, hz', hs⟩ := hc.one hf
  refine ⟨⟨hi, hz'⟩, (fun _ _ h => by cases h), fun x h => ?_, ?_⟩
  · simp only [Shp.sem, sem2, sem1, Option.some.injEq, v_k, v_r] at h hs ⊢
    rw [← h, ← hs]
    rw [wr_add_r, Int.zero_sub, Int.sub_eq_add_neg]
  · have := rk_lt hz h3
    cases z with
    | k _ => show i0 - 2 + 3 < i0 - 2 + (j - 2) + 4; (first | lia | omega)
    | r x => have : x - 2 < j - 2 := this; show i0 - 2 + (x - 2) + 4 < i0 - 2 + (j - 2) + 4; (first | lia | omega)
theorem add_comm_ok {s : Shp} (h : Ok V (.two .add a b) s) (hab : phi2 .add a b = phi2 .add b a) : Ok V (.two .add b a) s := by
  refine ⟨h.wf, h.nl, fun x hx => h.sem x ?_, ?_⟩
  · simp only [Shp.sem, sem2, Option.some.injEq] at hx ⊢
    rw [Int.add_comm]; exact hx
  · have := h.phi; show _ < phi2 .add b a; rw [← hab]; exact this
theorem ok_add_neg' {i0 j : Nat} (hc : Con V F) (hi : i0 < V.length) (hf : look j F = some (.one .neg z)) : Ok V (.two .add (.r j) (.r i0)) (.two .sub (.r i0) z) :=
  add_comm_ok (ok_add_neg hc hi hf) (by show i0 - 2 + (j - 2) + 4 = j - 2 + (i0 - 2) + 4; (first | lia | omega))
theorem ok_add_sub {i0 j : Nat} (hc : Con V F) (hf : look j F = some (.two .sub p q)) (he : eqb q.d (Opd.d (.r i0)) = true) : Ok V (.two .add (.r i0) (.r j)) (sameS p) := by
  have := eqb_opd he
  subst this
  obtain ⟨h3, hj, hp, hq, hp', hq', hs⟩ := hc.two hf
  refine ok_same hp' (fun x h => ?_) two_pos
  have := Opd.W hc hp'
  simp only [Shp.sem, sem2, Option.some.injEq, v_k, v_r] at h hs
  rw [← h, ← hs]
  rw [wr_add_r, Int.add_comm, Int.sub_add_cancel, wr_id this]
theorem ok_add_sub' {i0 j : Nat} (hc : Con V F) (hf : look j F = some (.two .sub p q)) (he : eqb q.d (Opd.d (.r i0)) = true) : Ok V (.two .add (.r j) (.r i0)) (sameS p) :=
  add_comm_ok (ok_add_sub hc hf he) (by show i0 - 2 + (j - 2) + 4 = j - 2 + (i0 - 2) + 4; (first | lia | omega))

theorem ok_sub_self {n : Int} (hn : n = 0) (he : eqb a.d b.d = true) : Ok V (.two .sub a b) (.const (.k (Builtin.bitAnd n 4294967295))) := by
  have := eqb_opd he
  subst this hn
  refine ok_told (by unfold W32; (first | lia | omega)) (fun x h => ?_) two_pos
  simp only [Shp.sem, sem2, Option.some.injEq] at h
  rw [← h, Int.sub_self]; rfl
theorem ok_sub_k (hi : i < V.length) : Ok V (.two .sub (.r i) (.k v)) (.two .add (.r i) (.k (Builtin.bitAnd (-v) 4294967295))) := by
  rw [mask]
  refine ⟨⟨hi, wr_lo _, wr_hi _⟩, (fun _ _ h => by cases h), fun x h => ?_, by show i - 2 + 2 < i - 2 + 3; (first | lia | omega)⟩
  simp only [Shp.sem, sem2, Option.some.injEq, v_k, v_r] at h ⊢
  rw [← h, wr_add_r, ← Int.sub_eq_add_neg]
theorem ok_sub_0 (hj : j < V.length) (he : eqb (Opd.d (.k u)) (Opd.d (.k 0)) = true) : Ok V (.two .sub (.k u) (.r j)) (.one .neg (.r j)) := by
  have := eqb_opd he
  cases this
  exact ⟨hj, (fun _ _ h => by cases h), fun x h => h, by show 2 * (j - 2) + 3 < 2 * (j - 2) + 4; (first | lia | omega)⟩
set_option tactic.hygienic true in
theorem ok_sub_neg (hc : Con V F) (ha : a.wf V.length) (hf : look j F = some (.one .neg z)) : Ok V (.two .sub a (.r j)) (.two .add a z) := by
  obtain ⟨h3, hj, hz, hz', hs⟩ := hc.one hf
  refine ⟨⟨ha, hz'⟩, (fun _ _ h => by cases h), fun x h => ?_, ?_⟩
  · simp only [Shp.sem, sem2, sem1, Option.some.injEq, v_k, v_r] at h hs ⊢
    rw [← h, ← hs]
    rw [wr_sub_r, Int.zero_sub, Int.sub_neg]
  · have := rk_lt hz h3
    cases a <;> cases z
    · show 1 < 2 * (j - 2) + 4; (first | lia | omega)
    · rename_i x; have : x - 2 < j - 2 := this; show (x - 2) + 3 < 2 * (j - 2) + 4; (first | lia | omega)
    · rename_i x _; show (x - 2) + 2 < (x - 2) + (j - 2) + 4; (first | lia | omega)
    · rename_i x y; have : y - 2 < j - 2 := this; show (x - 2) + (y - 2) + 4 < (x - 2) + (j - 2) + 4; (first | lia | omega)
theorem ok_sub_add1 (hc : Con V F) (hf : look i F = some (.two .add p q)) (he : eqb p.d (Opd.d (.r j)) = true) : Ok V (.two .sub (.r i) (.r j)) (sameS q) := by
  have := eqb_opd he
  subst this
  obtain ⟨h3, hi, hp, hq, hp', hq', hs⟩ := hc.two hf
  refine ok_same hq' (fun x h => ?_) two_pos
  have := Opd.W hc hq'
  simp only [Shp.sem, sem2, Option.some.injEq, v_k, v_r] at h hs
  rw [← h, ← hs]
  rw [wr_sub_l, Int.add_comm, Int.add_sub_cancel, wr_id this]
theorem ok_sub_add2 (hc : Con V F) (hf : look i F = some (.two .add p q)) (he : eqb q.d (Opd.d (.r j)) = true) : Ok V (.two .sub (.r i) (.r j)) (sameS p) := by
  have := eqb_opd he
  subst this
  obtain ⟨h3, hi, hp, hq, hp', hq', hs⟩ := hc.two hf
  refine ok_same hp' (fun x h => ?_) two_pos
  have := Opd.W hc hp'
  simp only [Shp.sem, sem2, Option.some.injEq, v_k, v_r] at h hs
  rw [← h, ← hs]
  rw [wr_sub_l, Int.add_sub_cancel, wr_id this]

theorem ok_neg_neg (hc : Con V F) (hf : look i F = some (.one .neg z)) : Ok V (.one .neg (.r i)) (sameS z) := by
  obtain ⟨h3, hi, hz, hz', hs⟩ := hc.one hf
  refine ok_same hz' (fun x h => ?_) (by show 0 < 2 * _ + 3; (first | lia | omega))
  have := Opd.W hc hz'
  simp only [Shp.sem, sem1, Option.some.injEq, v_k, v_r] at h hs
  rw [← h, ← hs]
  rw [wr_sub_r, Int.sub_sub_self, wr_id this]
set_option tactic.hygienic true in
theorem ok_neg_sub (hc : Con V F) (hf : look i F = some (.two .sub p q)) : Ok V (.one .neg (.r i)) (.two .sub q p) := by
  obtain ⟨h3, hi, hp, hq, hp', hq', hs⟩ := hc.two hf
  refine ⟨⟨hq', hp'⟩, (fun _ _ h => by cases h), fun x h => ?_, ?_⟩
  · simp only [Shp.sem, sem2, sem1, Option.some.injEq, v_k, v_r] at h hs ⊢
    rw [← h, ← hs]
    rw [wr_sub_r, Int.zero_sub, Int.neg_sub]
  · have h1 := rk_lt hp h3
    have h2 := rk_lt hq h3
    cases p <;> cases q
    · show 1 < 2 * (i - 2) + 3; (first | lia | omega)
    · rename_i y; have : y - 2 < i - 2 := h2; show (y - 2) + 3 < 2 * (i - 2) + 3; (first | lia | omega)
    · rename_i x _; have : x - 2 < i - 2 := h1; show 2 * (x - 2) + 4 < 2 * (i - 2) + 3; (first | lia | omega)
    · rename_i x y; have : y - 2 < i - 2 := h2; have : x - 2 < i - 2 := h1; show (y - 2) + (x - 2) + 4 < 2 * (i - 2) + 3; (first | lia | omega)
theorem ok_not_not (hc : Con V F) (hf : look i F = some (.one .not z)) : Ok V (.one .not (.r i)) (sameS z) := by
  obtain ⟨h3, hi, hz, hz', hs⟩ := hc.one hf
  refine ok_same hz' (fun x h => ?_) (by show 0 < 1; (first | lia | omega))
  simp only [Shp.sem, sem1, Option.some.injEq, v_k, v_r] at h hs
  rw [← h, ← hs]
  (first | lia | omega)
end
end Mine.Internal

end
section
open PySem PySem.W PyProof.Rows
set_option Elab.async false
set_option tactic.hygienic false
set_option backward.match.sparseCases false
set_option bootstrap.genMatcherCode false
namespace Mine.Internal
theorem wr_mul_l (x y : Int) : wr (wr x * y) = wr (x * y) := by unfold wr; rw [Int.mul_emod, Int.emod_emod, ← Int.mul_emod]
theorem wr_mul_r (x y : Int) : wr (x * wr y) = wr (x * y) := by rw [Int.mul_comm, wr_mul_l, Int.mul_comm]
theorem wr_wr (x : Int) : wr (wr x) = wr x := by unfold wr; (first | lia | omega)
theorem sg_lo {x : Int} (h : W32 x) : -2147483648 ≤ sg x := by unfold sg W32 at *; split <;> (first | lia | omega)
theorem sg_hi {x : Int} (h : W32 x) : sg x ≤ 2147483647 := by unfold sg W32 at *; split <;> (first | lia | omega)
theorem wr_sg {x : Int} (h : W32 x) : wr (sg x) = x := by unfold wr sg W32 at *; split <;> (first | lia | omega)
theorem sg_wr {x : Int} (h : -2147483648 ≤ x ∧ x ≤ 2147483647) : sg (wr x) = x := by unfold wr sg at *; split <;> (first | lia | omega)
theorem sg_pos {x : Int} (h : W32 x) (p : 0 ≤ sg x) : sg x = x := by unfold sg W32 at *; split at p <;> (split <;> (first | lia | omega))
theorem ofNat_and (m n : Nat) : Builtin.bitAnd (m : Int) (n : Int) = ((m &&& n : Nat) : Int) := by rw [bitAnd_pp (by (first | lia | omega)) (by (first | lia | omega))]; rfl
theorem exNat {x : Int} (h : W32 x) : ∃ n : Nat, x = n ∧ n < 2 ^ 32 := ⟨x.toNat, by unfold W32 at h; (first | lia | omega), by unfold W32 at h; (first | lia | omega)⟩
theorem and_le_l (m n : Nat) : m &&& n ≤ m := Nat.and_le_left
theorem pow2_of {v : Int} (hv : 0 < v) (h : Builtin.bitAnd v (v - 1) = 0) : v = 2 ^ (Builtin.Int.intBits v - 1) := by
  obtain ⟨n, rfl⟩ : ∃ n : Nat, v = n := ⟨v.toNat, by (first | lia | omega)⟩
  have e : ((n : Int) - 1) = ((n - 1 : Nat) : Int) := by (first | lia | omega)
  rw [e, ofNat_and] at h
  have hn : n ≠ 0 := by (first | lia | omega)
  have h' : n &&& (n - 1) = 0 := by (first | lia | omega)
  obtain ⟨k, hk⟩ := (Nat.and_sub_one_eq_zero_iff_isPowerOfTwo hn).mp h'
  have hb : Builtin.Int.intBits (n : Int) = n.log2 + 1 := by
    unfold Builtin.Int.intBits
    rw [if_neg (by simpa using hn)]
    simp
  rw [hb, hk, Nat.log2_two_pow]
  simp
theorem pow_le32 {n : Nat} (h : (2 : Int) ^ n < 4294967296) : n < 32 := by
  refine Nat.lt_of_not_le fun q => ?_
  have : (2 : Nat) ^ 32 ≤ 2 ^ n := Nat.pow_le_pow_right (by decide) q
  have e : ((2 ^ n : Nat) : Int) = (2 : Int) ^ n := by simp
  (first | lia | omega)
theorem mod32 {c : Int} (h0 : 0 ≤ c) (h : c < 32) : (c % 32).toNat = c.toNat := by (first | lia | omega)
theorem wr_small {c : Int} (h0 : 0 ≤ c) (h : c < 4294967296) : wr c = c := by unfold wr; (first | lia | omega)
theorem pow_pos (n : Nat) : (0 : Int) < 2 ^ n := Int.pow_pos (by decide)
theorem pow_add' (m n : Nat) : (2 : Int) ^ m * 2 ^ n = 2 ^ (m + n) := (Int.pow_add 2 m n).symm
theorem wr_pow {x : Int} {n : Nat} (h : 32 ≤ n) : wr (x * 2 ^ n) = 0 := by
  obtain ⟨k, rfl⟩ : ∃ k, n = 32 + k := ⟨n - 32, by (first | lia | omega)⟩
  rw [Int.pow_add, ← Int.mul_assoc, Int.mul_comm x, Int.mul_assoc]
  unfold wr
  exact Int.mul_emod_right _ _
theorem div_small {x : Int} {n : Nat} (h0 : 0 ≤ x) (h : x < 4294967296) (hn : 32 ≤ n) : x / 2 ^ n = 0 := by
  refine Int.ediv_eq_zero_of_lt h0 (Int.lt_of_lt_of_le h ?_)
  have : (2 : Nat) ^ 32 ≤ 2 ^ n := Nat.pow_le_pow_right (by decide) hn
  have e : ((2 ^ n : Nat) : Int) = (2 : Int) ^ n := by simp
  (first | lia | omega)
theorem div_pow_lo {x : Int} {n : Nat} (h0 : 0 ≤ x) : 0 ≤ x / 2 ^ n ∧ x / 2 ^ n ≤ x := ⟨Int.ediv_nonneg h0 (Int.le_of_lt (pow_pos n)), Int.ediv_le_self _ h0⟩
theorem sdiv_rng {x : Int} {n : Nat} (h1 : -2147483648 ≤ x) (h2 : x ≤ 2147483647) : -2147483648 ≤ x / 2 ^ n ∧ x / 2 ^ n ≤ 2147483647 := by
  by_cases h : 0 ≤ x
  · have := div_pow_lo (n := n) h; (first | lia | omega)
  · have p := pow_pos n
    refine ⟨?_, ?_⟩
    · refine (Int.le_ediv_iff_mul_le p).mpr ?_
      have : -2147483648 * 2 ^ n ≤ -2147483648 * 1 := Int.mul_le_mul_of_nonpos_left (by decide) (by (first | lia | omega))
      (first | lia | omega)
    · have : x / 2 ^ n ≤ 0 := Int.ediv_nonpos_of_nonpos_of_neg' h p
      (first | lia | omega)
where
  Int.ediv_nonpos_of_nonpos_of_neg' {x : Int} {n : Nat} (h : ¬ 0 ≤ x) (p : (0 : Int) < 2 ^ n) : x / 2 ^ n ≤ 0 := by
    have : x / 2 ^ n < 1 := (Int.ediv_lt_iff_lt_mul p).mpr (by (first | lia | omega))
    (first | lia | omega)
theorem sdiv_big {x : Int} {m n : Nat} (h1 : -2147483648 ≤ x) (h2 : x ≤ 2147483647) (hm : 31 ≤ m) (hn : 31 ≤ n) : x / 2 ^ m = x / 2 ^ n := by
  have key : ∀ k : Nat, 31 ≤ k → x / 2 ^ k = if 0 ≤ x then 0 else -1 := fun k hk => by
    have p : (2147483648 : Int) ≤ 2 ^ k := by
      have : (2 : Nat) ^ 31 ≤ 2 ^ k := Nat.pow_le_pow_right (by decide) hk
      have e : ((2 ^ k : Nat) : Int) = (2 : Int) ^ k := by simp
      (first | lia | omega)
    split
    · rename_i h0; exact Int.ediv_eq_zero_of_lt h0 (by (first | lia | omega))
    · have a : x / 2 ^ k < 0 := (Int.ediv_lt_iff_lt_mul (pow_pos k)).mpr (by (first | lia | omega))
      have b : -1 ≤ x / 2 ^ k := (Int.le_ediv_iff_mul_le (pow_pos k)).mpr (by (first | lia | omega))
      (first | lia | omega)
  rw [key m hm, key n hn]

section
variable {V : List Int} {F : Fcs} {i j : Nat} {o : O2} {o1 : O1} {a b p q z : Opd} {u v c : Int}
theorem ok_mul_0 {n : Int} (hn : n = 0) (h : decide (v = Int.ofNat 0) = true) : Ok V (.two .mul a (.k v)) (.const (.k (Builtin.bitAnd n 4294967295))) := by
  have h : v = 0 := of_dec h
  subst h hn
  refine ok_told (by unfold W32; (first | lia | omega)) (fun x h => ?_) two_pos
  simp only [Shp.sem, sem2, Option.some.injEq, v_k] at h
  rw [← h, Int.mul_zero]; rfl
theorem ok_mul_1 (hc : Con V F) (hi : i < V.length) (h : decide (v = Int.ofNat 1) = true) : Ok V (.two .mul (.r i) (.k v)) (.copy (.r i)) := by
  have h : v = 1 := of_dec h
  subst h
  refine ok_same (a := .r i) hi (fun x h => ?_) two_pos
  simp only [Shp.sem, sem2, Option.some.injEq, v_k, v_r] at h ⊢
  rw [← h, Int.mul_one, wr_id (hc.w i hi)]
theorem ok_mul_neg (hi : i < V.length) (h : decide (v = 4294967295) = true) : Ok V (.two .mul (.r i) (.k v)) (.one .neg (.r i)) := by
  have h : v = 4294967295 := of_dec h
  subst h
  refine ⟨hi, (fun _ _ h => by cases h), fun x h => ?_, by show 2 * (i - 2) + 3 < 2 * (i - 2) + 4; (first | lia | omega)⟩
  simp only [Shp.sem, sem2, sem1, Option.some.injEq, v_k, v_r] at h ⊢
  rw [← h]; unfold wr; (first | lia | omega)
theorem mul_phi (h3 : 3 ≤ i) (ha : a.wf i) (n m : Int) : (Shp.two .mul a (.k n)).phi < (Shp.two .mul (.r i) (.k m)).phi := by
  have := rk_lt ha h3
  cases a with
  | k _ => show 1 < 2 * (i - 2) + 4; (first | lia | omega)
  | r x => have : x - 2 < i - 2 := this; show 2 * (x - 2) + 4 < 2 * (i - 2) + 4; (first | lia | omega)
theorem ok_mul_mul (hc : Con V F) (hf : look i F = some (.two .mul a (.k u))) : Ok V (.two .mul (.r i) (.k v)) (.two .mul a (.k (Builtin.bitAnd (u * v) 4294967295))) := by
  obtain ⟨h3, hi, ha, hu, ha', _, hs⟩ := hc.two hf
  rw [mask]
  refine ⟨⟨ha', wr_lo _, wr_hi _⟩, (fun _ _ h => by cases h), fun x h => ?_, mul_phi h3 ha _ _⟩
  simp only [Shp.sem, sem2, Option.some.injEq, v_k, v_r] at h hs ⊢
  rw [← h, ← hs, wr_mul_r, wr_mul_l, Int.mul_assoc]
theorem ok_mul_shl (hc : Con V F) (hf : look i F = some (.two .shl a (.k c))) (h : decide (c < Int.ofNat 32) = true) : Ok V (.two .mul (.r i) (.k v)) (.two .mul a (.k (Builtin.bitAnd (v * 2 ^ c.toNat) 4294967295))) := by
  obtain ⟨h3, hi, ha, hu, ha', _, hs⟩ := hc.two hf
  have h : c < 32 := of_dec h
  have hu : 0 ≤ c ∧ c < 4294967296 := hu
  rw [mask]
  refine ⟨⟨ha', wr_lo _, wr_hi _⟩, (fun _ _ h => by cases h), fun x h => ?_, mul_phi h3 ha _ _⟩
  simp only [Shp.sem, sem2, Option.some.injEq, v_k, v_r] at h hs ⊢
  rw [mod32 hu.1 (by assumption)] at hs
  rw [← h, ← hs, wr_mul_r, wr_mul_l, Int.mul_assoc, Int.mul_comm v]
theorem expo (hv : 0 ≤ v ∧ v < 4294967296) (h0 : decide (v = 0) = false) (h1 : (!decide (Builtin.bitAnd v (v - 1) = 0)) = false) (h2 : decide (Int.ofNat 0 < ((Builtin.Int.intBits v : Nat) : Int) - 1) = true) :
    ∃ n : Nat, Builtin.bitAnd (((Builtin.Int.intBits v : Nat) : Int) - 1) 4294967295 = n ∧ 0 < n ∧ n < 32 ∧ v = 2 ^ n := by
  have h0 : v ≠ 0 := of_decide_eq_false h0
  have h1 : Builtin.bitAnd v (v - 1) = 0 := by simpa using h1
  have h2 : (0 : Int) < ((Builtin.Int.intBits v : Nat) : Int) - 1 := of_dec h2
  have e := pow2_of (by (first | lia | omega)) h1
  refine ⟨Builtin.Int.intBits v - 1, ?_, by (first | lia | omega), pow_le32 (by rw [← e]; exact hv.2), e⟩
  have l := pow_le32 (n := Builtin.Int.intBits v - 1) (by rw [← e]; exact hv.2)
  rw [mask, wr_small (by (first | lia | omega)) (by (first | lia | omega))]
  (first | lia | omega)
theorem ok_mul_pow (hi : i < V.length) (hv : 0 ≤ v ∧ v < 4294967296) (h0 : decide (v = 0) = false) (h1 : (!decide (Builtin.bitAnd v (v - 1) = 0)) = false) (h2 : decide (Int.ofNat 0 < ((Builtin.Int.intBits v : Nat) : Int) - 1) = true) :
    Ok V (.two .mul (.r i) (.k v)) (.two .shl (.r i) (.k (Builtin.bitAnd (((Builtin.Int.intBits v : Nat) : Int) - 1) 4294967295))) := by
  obtain ⟨n, e, n0, n32, ev⟩ := expo hv h0 h1 h2
  rw [e]
  refine ⟨⟨hi, by show (0 : Int) ≤ n ∧ (n : Int) < 4294967296; (first | lia | omega)⟩, (fun _ _ h => by cases h), fun x h => ?_, by show i - 2 + 2 < 2 * (i - 2) + 4; (first | lia | omega)⟩
  simp only [Shp.sem, sem2, Option.some.injEq, v_k, v_r] at h ⊢
  rw [mod32 (by (first | lia | omega)) (by (first | lia | omega)), ← h, ev]
  simp

theorem shQ_u {x y : Int} (hx : 0 ≤ x) (hy : 0 ≤ y) (h : x < 4294967296) : shQ x y = x / y := by
  unfold shQ
  rw [if_pos (by simp; (first | lia | omega))]
  have e : ((x.natAbs / y.natAbs : Nat) : Int) = x / y := by
    rw [Int.natCast_ediv, Int.natAbs_of_nonneg hx, Int.natAbs_of_nonneg hy]
  rw [e]
  exact wr_small (Int.ediv_nonneg hx hy) (Int.lt_of_le_of_lt (Int.ediv_le_self _ hx) h)
theorem shR_u {x y : Int} (hx : 0 ≤ x) (hy : 0 < y) (h : x < 4294967296) : shR x y = x % y := by
  unfold shR
  rw [if_pos hx]
  have e : ((x.natAbs % y.natAbs : Nat) : Int) = x % y := by
    rw [Int.natCast_emod, Int.natAbs_of_nonneg hx, Int.natAbs_of_nonneg (Int.le_of_lt hy)]
  rw [e]
  refine wr_small (Int.emod_nonneg _ (by (first | lia | omega))) (Int.lt_of_le_of_lt ?_ h)
  exact Int.emod_le_of_nonneg' hx hy
where
  Int.emod_le_of_nonneg' {x y : Int} (hx : 0 ≤ x) (hy : 0 < y) : x % y ≤ x := by
    have := Int.emod_add_mul_ediv x y
    have : 0 ≤ y * (x / y) := Int.mul_nonneg (Int.le_of_lt hy) (Int.ediv_nonneg hx (Int.le_of_lt hy))
    (first | lia | omega)
end
end Mine.Internal

end
section
open PySem PySem.W PyProof.Rows
set_option Elab.async false
set_option tactic.hygienic false
set_option backward.match.sparseCases false
set_option bootstrap.genMatcherCode false
namespace Mine.Internal
theorem bitOr_nat (m n : Nat) : Builtin.bitOr (m : Int) (n : Int) = ((m ||| n : Nat) : Int) := by
  rw [bitOr_and, ofNat_and]
  have := nat_or_add_and m n
  (first | lia | omega)
theorem xor_and_bit (m n : Nat) : (m ^^^ n) % 2 + 2 * ((m &&& n) % 2) = m % 2 + n % 2 := by
  have e1 := Nat.xor_mod_two_pow (a := m) (b := n) (n := 1)
  have e2 := Nat.and_mod_two_pow (a := m) (b := n) (n := 1)
  rw [Nat.pow_one] at e1 e2
  rw [e1, e2]
  rcases Nat.mod_two_eq_zero_or_one m with h | h <;> rcases Nat.mod_two_eq_zero_or_one n with k | k <;> rw [h, k] <;> rfl
theorem nat_halves {x a m n x' a' m' n' p q r s : Nat} (h1 : 2 * x' + p = x) (h2 : 2 * a' + q = a) (h3 : 2 * m' + r = m) (h4 : 2 * n' + s = n) (h5 : x' + 2 * a' = m' + n') (h6 : p + 2 * q = r + s) : x + 2 * a = m + n := by (first | lia | omega)
theorem nat_xor_add_and (m : Nat) : ∀ n : Nat, (m ^^^ n) + 2 * (m &&& n) = m + n := by
  induction m using Nat.strongRecOn with
  | ind m ih =>
    intro n
    by_cases h0 : m = 0
    · subst h0; simp
    · have ih' := ih (m / 2) (Nat.div_lt_self (Nat.pos_of_ne_zero h0) (Nat.le_refl 2)) (n / 2)
      rw [← Nat.xor_div_two, ← Nat.and_div_two] at ih'
      exact nat_halves (Nat.div_add_mod _ 2) (Nat.div_add_mod _ 2) (Nat.div_add_mod _ 2) (Nat.div_add_mod _ 2) ih' (xor_and_bit m n)
theorem bitXor_eq' (x y : Int) : Builtin.bitXor x y = x + y - 2 * Builtin.bitAnd x y := by unfold Builtin.bitXor; rw [bitOr_and]; (first | lia | omega)
theorem bitXor_nat (m n : Nat) : Builtin.bitXor (m : Int) (n : Int) = ((m ^^^ n : Nat) : Int) := by
  rw [bitXor_eq', ofNat_and]
  have := nat_xor_add_and m n
  (first | lia | omega)
theorem W_and {x y : Int} (hx : W32 x) (hy : W32 y) : W32 (Builtin.bitAnd x y) := by
  obtain ⟨m, rfl, hm⟩ := exNat hx
  obtain ⟨n, rfl, hn⟩ := exNat hy
  rw [ofNat_and]
  have : m &&& n ≤ m := Nat.and_le_left
  unfold W32 at *; (first | lia | omega)
theorem W_or {x y : Int} (hx : W32 x) (hy : W32 y) : W32 (Builtin.bitOr x y) := by
  obtain ⟨m, rfl, hm⟩ := exNat hx
  obtain ⟨n, rfl, hn⟩ := exNat hy
  rw [bitOr_nat]
  have := Nat.or_lt_two_pow hm hn
  unfold W32 at *; (first | lia | omega)
theorem W_xor {x y : Int} (hx : W32 x) (hy : W32 y) : W32 (Builtin.bitXor x y) := by
  obtain ⟨m, rfl, hm⟩ := exNat hx
  obtain ⟨n, rfl, hn⟩ := exNat hy
  rw [bitXor_nat]
  have := Nat.xor_lt_two_pow hm hn
  unfold W32 at *; (first | lia | omega)
theorem and_assoc' {x y z : Int} (hx : W32 x) (hy : W32 y) (hz : W32 z) : Builtin.bitAnd (Builtin.bitAnd x y) z = Builtin.bitAnd x (Builtin.bitAnd y z) := by
  obtain ⟨m, rfl, _⟩ := exNat hx
  obtain ⟨n, rfl, _⟩ := exNat hy
  obtain ⟨k, rfl, _⟩ := exNat hz
  simp only [ofNat_and, Nat.and_assoc]
theorem or_assoc' {x y z : Int} (hx : W32 x) (hy : W32 y) (hz : W32 z) : Builtin.bitOr (Builtin.bitOr x y) z = Builtin.bitOr x (Builtin.bitOr y z) := by
  obtain ⟨m, rfl, _⟩ := exNat hx
  obtain ⟨n, rfl, _⟩ := exNat hy
  obtain ⟨k, rfl, _⟩ := exNat hz
  simp only [bitOr_nat, Nat.or_assoc]
theorem xor_assoc' {x y z : Int} (hx : W32 x) (hy : W32 y) (hz : W32 z) : Builtin.bitXor (Builtin.bitXor x y) z = Builtin.bitXor x (Builtin.bitXor y z) := by
  obtain ⟨m, rfl, _⟩ := exNat hx
  obtain ⟨n, rfl, _⟩ := exNat hy
  obtain ⟨k, rfl, _⟩ := exNat hz
  simp only [bitXor_nat, Nat.xor_assoc]
theorem bitXor_comm' (x y : Int) : Builtin.bitXor x y = Builtin.bitXor y x := by rw [bitXor_eq', bitXor_eq', bitAnd_comm]; (first | lia | omega)
theorem xor_self' (x : Int) : Builtin.bitXor x x = 0 := by rw [bitXor_eq', bitAnd_self]; (first | lia | omega)
theorem xor_zero' (x : Int) : Builtin.bitXor x 0 = x := by rw [bitXor_eq', bitAnd_zero]; (first | lia | omega)
theorem xor_cancel {x y : Int} (hx : W32 x) (hy : W32 y) : Builtin.bitXor (Builtin.bitXor x y) y = x := by rw [xor_assoc' hx hy hy, xor_self', xor_zero']
theorem xor_mask {x : Int} (hx : W32 x) : Builtin.bitXor x 4294967295 = 4294967295 - x := by rw [bitXor_eq', mask, wr_id hx]; (first | lia | omega)
theorem or_mask {x : Int} (hx : W32 x) : Builtin.bitOr x 4294967295 = 4294967295 := by rw [bitOr_and, mask, wr_id hx]; (first | lia | omega)
section
variable {V : List Int} {F : Fcs} {i j : Nat} {o : O2} {o1 : O1} {a b p q z : Opd} {u v c lo hi : Int}
theorem sem_or (x y : Int) : sem2 .or x y = some (Builtin.bitOr x y) := by unfold sem2; rw [bitOr_and]
theorem sem_xor (x y : Int) : sem2 .xor x y = some (Builtin.bitXor x y) := by unfold sem2; rw [bitXor_eq']
theorem k_W (h : Opd.wf V.length (.k v)) : W32 v := h
theorem lin_phi (o : O2) (ho : o = .and ∨ o = .or ∨ o = .xor ∨ o = .shl ∨ o = .shr ∨ o = .sar) (h3 : 3 ≤ i) (ha : a.wf i) (n m : Int) : (Shp.two o a (.k n)).phi < (Shp.two o (.r i) (.k m)).phi := by
  have := rk_lt ha h3
  cases a with
  | k _ => rcases ho with rfl | rfl | rfl | rfl | rfl | rfl <;> (show 1 < i - 2 + _; (first | lia | omega))
  | r x =>
    have : x - 2 < i - 2 := this
    rcases ho with rfl | rfl | rfl | rfl | rfl | rfl <;> (show x - 2 + _ < i - 2 + _; (first | lia | omega))

theorem ok_and_self (hc : Con V F) (hi : i < V.length) (he : eqb (Opd.d (.r i)) b.d = true) : Ok V (.two .and (.r i) b) (.copy (.r i)) := by
  have := eqb_opd he
  subst this
  refine ok_same (a := .r i) hi (fun x h => ?_) two_pos
  simp only [Shp.sem, sem2, Option.some.injEq, bitAnd_self] at h
  exact h.symm
theorem ok_and_0 {n : Int} (hn : n = 0) (h : decide (v = Int.ofNat 0) = true) : Ok V (.two .and a (.k v)) (.const (.k (Builtin.bitAnd n 4294967295))) := by
  have h : v = 0 := of_dec h
  subst h hn
  refine ok_told (by unfold W32; (first | lia | omega)) (fun x h => ?_) two_pos
  simp only [Shp.sem, sem2, Option.some.injEq, v_k, bitAnd_zero] at h
  exact h.symm
theorem ok_and_m (hc : Con V F) (hi : i < V.length) (h : decide (v = 4294967295) = true) : Ok V (.two .and (.r i) (.k v)) (.copy (.r i)) := by
  have h : v = 4294967295 := of_dec h
  subst h
  refine ok_same (a := .r i) hi (fun x h => ?_) two_pos
  simp only [Shp.sem, sem2, Option.some.injEq, v_k, v_r, mask] at h ⊢
  rw [← h, wr_id (hc.w i hi)]
theorem ok_and_and (hc : Con V F) (hv : Opd.wf V.length (.k v)) (hf : look i F = some (.two .and a (.k u))) : Ok V (.two .and (.r i) (.k v)) (.two .and a (.k (Builtin.bitAnd (Builtin.bitAnd u v) 4294967295))) := by
  obtain ⟨h3, hi, ha, hu, ha', hu', hs⟩ := hc.two hf
  rw [mask, wr_id (W_and hu' (k_W hv))]
  refine ⟨⟨ha', W_and hu' (k_W hv)⟩, (fun _ _ h => by cases h), fun x h => ?_, lin_phi _ (.inl rfl) h3 ha _ _⟩
  simp only [Shp.sem, sem2, Option.some.injEq, v_k, v_r] at h hs ⊢
  rw [← h, ← hs, and_assoc' (Opd.W hc ha') hu' (k_W hv)]
theorem ones_of (hv : Opd.wf V.length (.k v)) (h : decide (Builtin.bitAnd v (v + Int.ofNat 1) = Int.ofNat 0) = true) : ∃ n : Nat, v = 2 ^ n - 1 := by
  have h : Builtin.bitAnd v (v + 1) = 0 := of_dec h
  obtain ⟨m, rfl, hm⟩ := exNat (k_W hv)
  have e : ((m : Int) + 1) = ((m + 1 : Nat) : Int) := by (first | lia | omega)
  rw [e, ofNat_and] at h
  have h' : (m + 1) &&& ((m + 1) - 1) = 0 := by rw [Nat.and_comm]; show m &&& (m + 1) = 0; (first | lia | omega)
  obtain ⟨k, hk⟩ := (Nat.and_sub_one_eq_zero_iff_isPowerOfTwo (by (first | lia | omega) : m + 1 ≠ 0)).mp h'
  refine ⟨k, ?_⟩
  have : ((2 ^ k : Nat) : Int) = (2 : Int) ^ k := by simp
  (first | lia | omega)
theorem and_ones {x : Int} {n : Nat} (hx : 0 ≤ x) : Builtin.bitAnd x (2 ^ n - 1) = x % 2 ^ n := by
  obtain ⟨m, rfl⟩ : ∃ m : Nat, x = m := ⟨x.toNat, by (first | lia | omega)⟩
  have h1 : 1 ≤ 2 ^ n := Nat.one_le_two_pow
  have e : ((2 : Int) ^ n - 1) = ((2 ^ n - 1 : Nat) : Int) := by
    have : ((2 ^ n : Nat) : Int) = (2 : Int) ^ n := by simp
    (first | lia | omega)
  rw [e, ofNat_and, Nat.and_two_pow_sub_one_eq_mod]
  simp
theorem ok_and_span (hc : Con V F) (hi' : i < V.length) (hv : Opd.wf V.length (.k v)) (h : decide (Builtin.bitAnd v (v + Int.ofNat 1) = Int.ofNat 0) = true)
    (h1 : lo ≤ sg (Opd.v V (.r i))) (h2 : sg (Opd.v V (.r i)) ≤ hi) (h3 : decide (Int.ofNat 0 ≤ lo) = true) (h4 : decide (hi ≤ v) = true) : Ok V (.two .and (.r i) (.k v)) (.copy (.r i)) := by
  obtain ⟨n, rfl⟩ := ones_of hv h
  have h3 : 0 ≤ lo := of_dec h3
  have h4 : hi ≤ 2 ^ n - 1 := of_dec h4
  have hw := hc.w i hi'
  rw [v_r] at h1 h2
  have e := sg_pos hw (by (first | lia | omega))
  refine ok_same (a := .r i) hi' (fun x h => ?_) two_pos
  simp only [Shp.sem, sem2, Option.some.injEq, v_k, v_r] at h ⊢
  rw [← h, and_ones hw.1]
  exact Int.emod_eq_of_lt hw.1 (by (first | lia | omega))
theorem ok_and_w8 (hc : Con V F) (s : Bool) (hf : look i F = some (.one (if s then .sx8 else .zx8) a)) (h : decide (v = Int.ofNat 1 * 2 ^ Int.toNat 8 - Int.ofNat 1) = true) : Ok V (.two .and (.r i) (.k v)) (.one .zx8 a) := by
  have h : v = 2 ^ 8 - 1 := of_dec h
  subst h
  obtain ⟨h3, hi, ha, ha', hs⟩ := hc.one hf
  have hA := Opd.W hc ha'
  refine ⟨ha', (fun _ _ h => by cases h), fun x h => ?_, ?_⟩
  · simp only [Shp.sem, sem2, Option.some.injEq, v_k, v_r] at h hs ⊢
    rw [← h, and_ones (hc.w i hi).1, ← hs]
    cases s
    · simp only [sem1, ext, wr]; simp; (first | lia | omega)
    · simp only [sem1, ext, wr]; simp; split <;> (first | lia | omega)
  · have := rk_lt ha h3
    cases a with
    | k _ => show 1 < i - 2 + 2; (first | lia | omega)
    | r x => have : x - 2 < i - 2 := this; show x - 2 + 1 < i - 2 + 2; (first | lia | omega)
theorem ok_and_w16 (hc : Con V F) (s : Bool) (hf : look i F = some (.one (if s then .sx16 else .zx16) a)) (h : decide (v = Int.ofNat 1 * 2 ^ Int.toNat 16 - Int.ofNat 1) = true) : Ok V (.two .and (.r i) (.k v)) (.one .zx16 a) := by
  have h : v = 2 ^ 16 - 1 := of_dec h
  subst h
  obtain ⟨h3, hi, ha, ha', hs⟩ := hc.one hf
  have hA := Opd.W hc ha'
  refine ⟨ha', (fun _ _ h => by cases h), fun x h => ?_, ?_⟩
  · simp only [Shp.sem, sem2, Option.some.injEq, v_k, v_r] at h hs ⊢
    rw [← h, and_ones (hc.w i hi).1, ← hs]
    cases s
    · simp only [sem1, ext, wr]; simp; (first | lia | omega)
    · simp only [sem1, ext, wr]; simp; split <;> (first | lia | omega)
  · have := rk_lt ha h3
    cases a with
    | k _ => show 1 < i - 2 + 2; (first | lia | omega)
    | r x => have : x - 2 < i - 2 := this; show x - 2 + 1 < i - 2 + 2; (first | lia | omega)

theorem ok_or_self (hi : i < V.length) (he : eqb (Opd.d (.r i)) b.d = true) : Ok V (.two .or (.r i) b) (.copy (.r i)) := by
  have := eqb_opd he
  subst this
  refine ok_same (a := .r i) hi (fun x h => ?_) two_pos
  simp only [Shp.sem, sem2, Option.some.injEq, bitAnd_self] at h
  (first | lia | omega)
theorem ok_or_0 (hi : i < V.length) (h : decide (v = Int.ofNat 0) = true) : Ok V (.two .or (.r i) (.k v)) (.copy (.r i)) := by
  have h : v = 0 := of_dec h
  subst h
  refine ok_same (a := .r i) hi (fun x h => ?_) two_pos
  simp only [Shp.sem, sem2, Option.some.injEq, v_k, bitAnd_zero] at h
  (first | lia | omega)
theorem ok_or_m (hc : Con V F) (hi : i < V.length) (h : decide (v = 4294967295) = true) : Ok V (.two .or (.r i) (.k v)) (.const (.k (Builtin.bitAnd 4294967295 4294967295))) := by
  have h : v = 4294967295 := of_dec h
  subst h
  refine ok_told (by unfold W32; (first | lia | omega)) (fun x h => ?_) two_pos
  simp only [Shp.sem, sem_or, Option.some.injEq, v_k, v_r, or_mask (hc.w i hi)] at h
  exact h.symm
theorem ok_or_or (hc : Con V F) (hv : Opd.wf V.length (.k v)) (hf : look i F = some (.two .or a (.k u))) : Ok V (.two .or (.r i) (.k v)) (.two .or a (.k (Builtin.bitAnd (Builtin.bitOr u v) 4294967295))) := by
  obtain ⟨h3, hi, ha, hu, ha', hu', hs⟩ := hc.two hf
  rw [mask, wr_id (W_or hu' (k_W hv))]
  refine ⟨⟨ha', W_or hu' (k_W hv)⟩, (fun _ _ h => by cases h), fun x h => ?_, lin_phi _ (.inr (.inl rfl)) h3 ha _ _⟩
  simp only [Shp.sem, sem_or, Option.some.injEq, v_k, v_r] at h hs ⊢
  rw [← h, ← hs, or_assoc' (Opd.W hc ha') hu' (k_W hv)]

theorem ok_xor_self {n : Int} (hn : n = 0) (he : eqb a.d b.d = true) : Ok V (.two .xor a b) (.const (.k (Builtin.bitAnd n 4294967295))) := by
  have := eqb_opd he
  subst this hn
  refine ok_told (by unfold W32; (first | lia | omega)) (fun x h => ?_) two_pos
  simp only [Shp.sem, sem_xor, Option.some.injEq, xor_self'] at h
  exact h.symm
theorem ok_xor_0 (hi : i < V.length) (h : decide (v = Int.ofNat 0) = true) : Ok V (.two .xor (.r i) (.k v)) (.copy (.r i)) := by
  have h : v = 0 := of_dec h
  subst h
  refine ok_same (a := .r i) hi (fun x h => ?_) two_pos
  simp only [Shp.sem, sem_xor, Option.some.injEq, v_k, xor_zero'] at h
  exact h.symm
theorem ok_xor_m (hc : Con V F) (hi : i < V.length) (h : decide (v = 4294967295) = true) : Ok V (.two .xor (.r i) (.k v)) (.one .not (.r i)) := by
  have h : v = 4294967295 := of_dec h
  subst h
  refine ⟨hi, (fun _ _ h => by cases h), fun x h => ?_, by show 1 < i - 2 + 2; (first | lia | omega)⟩
  simp only [Shp.sem, sem_xor, sem1, Option.some.injEq, v_k, v_r, xor_mask (hc.w i hi)] at h ⊢
  exact h
theorem ok_xor_xor (hc : Con V F) (hv : Opd.wf V.length (.k v)) (hf : look i F = some (.two .xor a (.k u))) : Ok V (.two .xor (.r i) (.k v)) (.two .xor a (.k (Builtin.bitAnd (Builtin.bitXor u v) 4294967295))) := by
  obtain ⟨h3, hi, ha, hu, ha', hu', hs⟩ := hc.two hf
  rw [mask, wr_id (W_xor hu' (k_W hv))]
  refine ⟨⟨ha', W_xor hu' (k_W hv)⟩, (fun _ _ h => by cases h), fun x h => ?_, lin_phi _ (.inr (.inr (.inl rfl))) h3 ha _ _⟩
  simp only [Shp.sem, sem_xor, Option.some.injEq, v_k, v_r] at h hs ⊢
  rw [← h, ← hs, xor_assoc' (Opd.W hc ha') hu' (k_W hv)]
theorem xor_1 {i0 : Nat} (hc : Con V F) (hi : i0 < V.length) (hf : look j F = some (.two .xor p q)) (he : eqb p.d (Opd.d (.r i0)) = true) : ∀ x, sem2 .xor (V.getD i0 0) (V.getD j 0) = some x → x = q.v V := by
  have := eqb_opd he
  subst this
  obtain ⟨h3, hj, hp, hq, hp', hq', hs⟩ := hc.two hf
  intro x h
  simp only [sem_xor, Option.some.injEq, v_r] at h hs
  rw [← h, ← hs, bitXor_comm', bitXor_comm' _ (Opd.v V q), xor_cancel (Opd.W hc hq') (hc.w _ hi)]
theorem xor_2 {i0 : Nat} (hc : Con V F) (hi : i0 < V.length) (hf : look j F = some (.two .xor p q)) (he : eqb p.d (Opd.d (.r i0)) = false) (ha : anyEq (Opd.d (.r i0)) [p.d, q.d] = true) : ∀ x, sem2 .xor (V.getD i0 0) (V.getD j 0) = some x → x = p.v V := by
  simp only [anyEq, he, Bool.false_or, Bool.or_false] at ha
  have := eqb_opd ha
  subst this
  obtain ⟨h3, hj, hp, hq, hp', hq', hs⟩ := hc.two hf
  intro x h
  simp only [sem_xor, Option.some.injEq, v_r] at h hs
  rw [← h, ← hs, bitXor_comm', xor_cancel (Opd.W hc hp') (hc.w _ hi)]
theorem ok_xor_r1 {i0 : Nat} (hc : Con V F) (hi : i0 < V.length) (hf : look j F = some (.two .xor p q)) (he : eqb p.d (Opd.d (.r i0)) = true) : Ok V (.two .xor (.r i0) (.r j)) (sameS q) :=
  ok_same (hc.two hf).2.2.2.2.2.1 (xor_1 hc hi hf he) two_pos
theorem ok_xor_r2 {i0 : Nat} (hc : Con V F) (hi : i0 < V.length) (hf : look j F = some (.two .xor p q)) (he : eqb p.d (Opd.d (.r i0)) = false) (ha : anyEq (Opd.d (.r i0)) [p.d, q.d] = true) : Ok V (.two .xor (.r i0) (.r j)) (sameS p) :=
  ok_same (hc.two hf).2.2.2.2.1 (xor_2 hc hi hf he ha) two_pos
theorem xor_comm_sem (x y : Int) : sem2 .xor x y = sem2 .xor y x := by rw [sem_xor, sem_xor, bitXor_comm']
theorem ok_xor_r1' {i0 : Nat} (hc : Con V F) (hi : i0 < V.length) (hf : look j F = some (.two .xor p q)) (he : eqb p.d (Opd.d (.r i0)) = true) : Ok V (.two .xor (.r j) (.r i0)) (sameS q) :=
  ok_same (hc.two hf).2.2.2.2.2.1 (fun x h => xor_1 hc hi hf he x (by rw [xor_comm_sem]; exact h)) two_pos
theorem ok_xor_r2' {i0 : Nat} (hc : Con V F) (hi : i0 < V.length) (hf : look j F = some (.two .xor p q)) (he : eqb p.d (Opd.d (.r i0)) = false) (ha : anyEq (Opd.d (.r i0)) [p.d, q.d] = true) : Ok V (.two .xor (.r j) (.r i0)) (sameS p) :=
  ok_same (hc.two hf).2.2.2.2.1 (fun x h => xor_2 hc hi hf he ha x (by rw [xor_comm_sem]; exact h)) two_pos
end
end Mine.Internal

end
section
open PySem PySem.W PyProof.Rows
set_option Elab.async false
set_option tactic.hygienic false
set_option backward.match.sparseCases false
set_option bootstrap.genMatcherCode false
namespace Mine.Internal
section
variable {V : List Int} {F : Fcs} {i j : Nat} {o : O2} {o1 : O1} {a b p q z : Opd} {u v c lo hi lo' hi' n : Int}
theorem ok_divu_1 (ha : a.wf V.length) (hc : Con V F) (h : decide (v = Int.ofNat 1) = true) : Ok V (.two .divu a (.k v)) (sameS a) := by
  have h : v = 1 := of_dec h
  subst h
  refine ok_same ha (fun x h => ?_) two_pos
  have hw := Opd.W hc ha
  simp only [Shp.sem, v_k, v_r] at h
  simp only [sem2] at h
  rw [if_neg (by decide), Option.some.injEq, shQ_u hw.1 (by decide) hw.2, Int.ediv_one] at h
  exact h.symm
theorem ok_remu_1 (hn : n = 0) (ha : a.wf V.length) (hc : Con V F) (h : decide (v = Int.ofNat 1) = true) : Ok V (.two .remu a (.k v)) (.const (.k (Builtin.bitAnd n 4294967295))) := by
  have h : v = 1 := of_dec h
  subst h hn
  refine ok_told (by unfold W32; (first | lia | omega)) (fun x h => ?_) two_pos
  have hw := Opd.W hc ha
  simp only [Shp.sem, v_k, v_r] at h
  simp only [sem2] at h
  rw [if_neg (by decide), Option.some.injEq, shR_u hw.1 (by decide) hw.2, Int.emod_one] at h
  exact h.symm
theorem span_small (hw : W32 (a.v V)) (h1 : lo ≤ sg (a.v V)) (h2 : sg (a.v V) ≤ hi) (h3 : decide (Int.ofNat 0 ≤ lo) = true) (h4 : decide (hi < v) = true) : 0 ≤ a.v V ∧ a.v V < v := by
  have h3 : 0 ≤ lo := of_dec h3
  have h4 : hi < v := of_dec h4
  have := sg_pos hw (by (first | lia | omega))
  unfold W32 at hw
  (first | lia | omega)
theorem ok_divu_s (hn : n = 0) (ha : a.wf V.length) (hc : Con V F) (h1 : lo ≤ sg (a.v V)) (h2 : sg (a.v V) ≤ hi) (h3 : decide (Int.ofNat 0 ≤ lo) = true) (h4 : decide (hi < v) = true) : Ok V (.two .divu a (.k v)) (.const (.k (Builtin.bitAnd n 4294967295))) := by
  subst hn
  have hw := Opd.W hc ha
  obtain ⟨l1, l2⟩ := span_small hw h1 h2 h3 h4
  refine ok_told (by unfold W32; (first | lia | omega)) (fun x h => ?_) two_pos
  simp only [Shp.sem, v_k, v_r] at h
  simp only [sem2] at h
  rw [if_neg (by (first | lia | omega)), Option.some.injEq, shQ_u hw.1 (by (first | lia | omega)) hw.2, Int.ediv_eq_zero_of_lt l1 l2] at h
  exact h.symm
theorem ok_remu_s (ha : a.wf V.length) (hc : Con V F) (h1 : lo ≤ sg (a.v V)) (h2 : sg (a.v V) ≤ hi) (h3 : decide (Int.ofNat 0 ≤ lo) = true) (h4 : decide (hi < v) = true) : Ok V (.two .remu a (.k v)) (sameS a) := by
  have hw := Opd.W hc ha
  obtain ⟨l1, l2⟩ := span_small hw h1 h2 h3 h4
  refine ok_same ha (fun x h => ?_) two_pos
  simp only [Shp.sem, v_k, v_r] at h
  simp only [sem2] at h
  rw [if_neg (by (first | lia | omega)), Option.some.injEq, shR_u hw.1 (by (first | lia | omega)) hw.2, Int.emod_eq_of_lt l1 l2] at h
  exact h.symm
theorem ok_divu_p (hi' : i < V.length) (hc : Con V F) (hv : 0 ≤ v ∧ v < 4294967296) (h0 : decide (v = 0) = false) (h1 : (!decide (Builtin.bitAnd v (v - 1) = 0)) = false) (h2 : decide (Int.ofNat 0 < ((Builtin.Int.intBits v : Nat) : Int) - 1) = true) :
    Ok V (.two .divu (.r i) (.k v)) (.two .shr (.r i) (.k (Builtin.bitAnd (((Builtin.Int.intBits v : Nat) : Int) - 1) 4294967295))) := by
  obtain ⟨n, e, n0, n32, ev⟩ := expo hv h0 h1 h2
  rw [e]
  have hw := hc.w i hi'
  have h0 : v ≠ 0 := of_decide_eq_false h0
  refine ⟨⟨hi', by show (0 : Int) ≤ n ∧ (n : Int) < 4294967296; (first | lia | omega)⟩, (fun _ _ h => by cases h), fun x h => ?_, by show i - 2 + 2 < i - 2 + 3; (first | lia | omega)⟩
  simp only [Shp.sem, v_k, v_r] at h ⊢
  simp only [sem2] at h ⊢
  rw [if_neg h0, Option.some.injEq, shQ_u hw.1 hv.1 hw.2, ev] at h
  rw [mod32 (by (first | lia | omega)) (by (first | lia | omega)), ← h]
  have := div_pow_lo (n := n) hw.1
  rw [Int.toNat_natCast, wr_small this.1 (by unfold W32 at hw; (first | lia | omega))]
theorem ok_remu_p (hn : n = 1) (hi' : i < V.length) (hc : Con V F) (hv : 0 ≤ v ∧ v < 4294967296) (h0 : decide (v = 0) = false) (h1 : (!decide (Builtin.bitAnd v (v - 1) = 0)) = false) (h2 : decide (Int.ofNat 0 < ((Builtin.Int.intBits v : Nat) : Int) - 1) = true) :
    Ok V (.two .remu (.r i) (.k v)) (.two .and (.r i) (.k (Builtin.bitAnd (v - n) 4294967295))) := by
  subst hn
  obtain ⟨n, e, n0, n32, ev⟩ := expo hv h0 h1 h2
  have hw := hc.w i hi'
  have h0 : v ≠ 0 := of_decide_eq_false h0
  rw [mask, wr_small (by (first | lia | omega)) (by (first | lia | omega))]
  refine ⟨⟨hi', by show (0 : Int) ≤ v - 1 ∧ v - 1 < 4294967296; (first | lia | omega)⟩, (fun _ _ h => by cases h), fun x h => ?_, by show i - 2 + 2 < i - 2 + 3; (first | lia | omega)⟩
  simp only [Shp.sem, v_k, v_r] at h ⊢
  simp only [sem2] at h ⊢
  rw [if_neg h0, Option.some.injEq, shR_u hw.1 (by (first | lia | omega)) hw.2] at h
  rw [ev, and_ones hw.1, ← ev, h]
theorem ok_div_1 (ha : a.wf V.length) (hc : Con V F) (h : decide (v = Int.ofNat 1) = true) : Ok V (.two .div a (.k v)) (sameS a) := by
  have h : v = 1 := of_dec h
  subst h
  refine ok_same ha (fun x h => ?_) two_pos
  have hw := Opd.W hc ha
  simp only [Shp.sem, v_k, v_r] at h
  simp only [sem2] at h
  have e1 : sg 1 = 1 := by decide
  rw [e1, if_neg (by (first | lia | omega)), Option.some.injEq] at h
  rw [← h]
  unfold shQ
  have : ((Int.natAbs (sg (Opd.v V a)) / Int.natAbs 1 : Nat) : Int) = (sg (Opd.v V a)).natAbs := by simp
  rw [this]
  have := wr_sg hw
  split
  · rename_i q
    have : 0 ≤ sg (Opd.v V a) := by simp at q; (first | lia | omega)
    rw [Int.natAbs_of_nonneg this]; assumption
  · rename_i q
    have : sg (Opd.v V a) < 0 := by simp at q; (first | lia | omega)
    rw [show (-((sg (Opd.v V a)).natAbs : Int)) = sg (Opd.v V a) by (first | lia | omega)]; assumption
theorem ok_rem_1 (hn : n = 0) (ha : a.wf V.length) (hc : Con V F) (h : decide (v = Int.ofNat 1) = true) : Ok V (.two .rem a (.k v)) (.const (.k (Builtin.bitAnd n 4294967295))) := by
  have h : v = 1 := of_dec h
  subst h hn
  refine ok_told (by unfold W32; (first | lia | omega)) (fun x h => ?_) two_pos
  simp only [Shp.sem, v_k, v_r] at h
  simp only [sem2] at h
  have e1 : sg 1 = 1 := by decide
  rw [e1, if_neg (by (first | lia | omega)), Option.some.injEq] at h
  rw [← h]
  unfold shR
  have : ((Int.natAbs (sg (Opd.v V a)) % Int.natAbs 1 : Nat) : Int) = 0 := by simp [Nat.mod_one]
  rw [this]
  split <;> rfl
theorem div_same (hw : W32 (a.v V)) (h1 : lo ≤ sg (a.v V)) (h3 : decide (Int.ofNat 0 ≤ lo) = true) (h0 : decide (v = Int.ofNat 0) = false) (hv : 0 ≤ v) (ht : decide (v < 2147483648) = true) : sg (a.v V) = a.v V ∧ sg v = v ∧ v ≠ 0 := by
  have h3 : 0 ≤ lo := of_dec h3
  have h0 : v ≠ 0 := of_decide_eq_false h0
  have ht : v < 2147483648 := of_dec ht
  refine ⟨sg_pos hw (by (first | lia | omega)), ?_, h0⟩
  unfold sg; rw [if_neg (by (first | lia | omega))]
theorem ok_div_u (hi' : i < V.length) (hb : Opd.wf V.length (.k v)) (hc : Con V F) (h1 : lo ≤ sg (Opd.v V (.r i))) (h3 : decide (Int.ofNat 0 ≤ lo) = true) (h0 : decide (v = Int.ofNat 0) = false) (ht : decide (v < 2147483648) = true) : Ok V (.two .div (.r i) (.k v)) (.two .divu (.r i) (.k v)) := by
  obtain ⟨e1, e2, e3⟩ := div_same (a := .r i) (hc.w i hi') h1 h3 h0 hb.1 ht
  have e1 : sg (V.getD i 0) = V.getD i 0 := e1
  refine ⟨⟨hi', hb⟩, (fun _ _ h => by cases h), fun x h => ?_, by show i - 2 + 3 < i - 2 + 4; (first | lia | omega)⟩
  simp only [Shp.sem, v_k, v_r] at h ⊢
  simp only [sem2] at h ⊢
  rw [e1, e2] at h
  rw [if_neg e3]
  split at h
  · cases h
  · exact h
theorem ok_rem_u (hi' : i < V.length) (hb : Opd.wf V.length (.k v)) (hc : Con V F) (h1 : lo ≤ sg (Opd.v V (.r i))) (h3 : decide (Int.ofNat 0 ≤ lo) = true) (h0 : decide (v = Int.ofNat 0) = false) (ht : decide (v < 2147483648) = true) : Ok V (.two .rem (.r i) (.k v)) (.two .remu (.r i) (.k v)) := by
  obtain ⟨e1, e2, e3⟩ := div_same (a := .r i) (hc.w i hi') h1 h3 h0 hb.1 ht
  have e1 : sg (V.getD i 0) = V.getD i 0 := e1
  refine ⟨⟨hi', hb⟩, (fun _ _ h => by cases h), fun x h => ?_, by show i - 2 + 3 < i - 2 + 4; (first | lia | omega)⟩
  simp only [Shp.sem, v_k, v_r] at h ⊢
  simp only [sem2] at h ⊢
  rw [e1, e2] at h
  rw [if_neg e3]
  split at h
  · cases h
  · exact h

theorem is_num {t : Str} {w : Int} (h : eqb (Opd.d (.k u)) (.tup [.str t, .int w]) = true) : u = w := by
  simp [Opd.d, eqb, eqbs] at h
  exact h.2
theorem sh_0 {o : O2} (ho : o = .shl ∨ o = .shr ∨ o = .sar) (hn : n = 0) {t : Str} {w : Int} (hw : w = 0) (h : eqb (Opd.d (.k u)) (.tup [.str t, .int w]) = true) : Ok V (.two o (.k u) b) (.const (.k (Builtin.bitAnd n 4294967295))) := by
  have := is_num h
  subst this hn hw
  refine ok_told (by unfold W32; (first | lia | omega)) (fun x h => ?_) two_pos
  simp only [Shp.sem] at h
  rcases ho with rfl | rfl | rfl
  · simp only [sem2, v_k, Int.zero_mul, Option.some.injEq] at h; rw [← h]; rfl
  · simp only [sem2, v_k, Int.zero_ediv, Option.some.injEq] at h; rw [← h]; rfl
  · simp only [sem2, v_k, show sg 0 = 0 from rfl, Int.zero_ediv, Option.some.injEq] at h; rw [← h]; rfl
theorem sh_1 {o : O2} (ho : o = .shl ∨ o = .shr ∨ o = .sar) (ha : a.wf V.length) (hc : Con V F) (h : decide (v = Int.ofNat 0) = true) : Ok V (.two o a (.k v)) (sameS a) := by
  have h : v = 0 := of_dec h
  subst h
  have hw := Opd.W hc ha
  refine ok_same ha (fun x h => ?_) two_pos
  simp only [Shp.sem] at h
  rcases ho with rfl | rfl | rfl
  · simp only [sem2, v_k, Option.some.injEq] at h
    rw [← h]; simp [wr_id hw]
  · simp only [sem2, v_k, Option.some.injEq] at h
    rw [← h]; simp [wr_id hw]
  · simp only [sem2, v_k, Option.some.injEq] at h
    rw [← h]; simp [wr_sg hw]
theorem sh_lt (hu : 0 ≤ u ∧ u < 4294967296) (hv : 0 ≤ v ∧ v < 4294967296) (h31 : decide (u ≤ Int.ofNat 31) = true) (hv31 : decide (Int.ofNat 31 < v) = false) : (u % 32).toNat = u.toNat ∧ (v % 32).toNat = v.toNat ∧ u ≤ 31 ∧ v ≤ 31 ∧ (u + v).toNat = u.toNat + v.toNat := by
  have h31 : u ≤ 31 := of_dec h31
  have hv31 : v ≤ 31 := Int.not_lt.mp (of_decide_eq_false hv31)
  exact ⟨by rw [Int.emod_eq_of_lt hu.1 (Int.lt_of_le_of_lt h31 (by decide))], by rw [Int.emod_eq_of_lt hv.1 (Int.lt_of_le_of_lt hv31 (by decide))], h31, hv31, Int.toNat_add hu.1 hv.1⟩
theorem ok_shl_shl (hc : Con V F) (hb : Opd.wf V.length (.k v)) (hf : look i F = some (.two .shl a (.k u))) (h31 : decide (u ≤ Int.ofNat 31) = true) (hv31 : decide (Int.ofNat 31 < v) = false) (ht : decide (u + v ≤ Int.ofNat 31) = true) :
    Ok V (.two .shl (.r i) (.k v)) (.two .shl a (.k (Builtin.bitAnd (u + v) 4294967295))) := by
  obtain ⟨h3, hi, ha, hu, ha', hu', hs⟩ := hc.two hf
  have ht : u + v ≤ 31 := of_dec ht
  obtain ⟨e1, e2, l1, l2, e3⟩ := sh_lt hu hb h31 hv31
  have hu : 0 ≤ u ∧ u < 4294967296 := hu
  have hb : 0 ≤ v ∧ v < 4294967296 := hb
  rw [mask, wr_small (by (first | lia | omega)) (by (first | lia | omega))]
  refine ⟨⟨ha', by show 0 ≤ u + v ∧ u + v < 4294967296; (first | lia | omega)⟩, (fun _ _ h => by cases h), fun x h => ?_, lin_phi _ (by simp) h3 ha _ _⟩
  simp only [Shp.sem, sem2, Option.some.injEq, v_k, v_r] at h hs ⊢
  rw [e1] at hs
  rw [e2, ← hs, wr_mul_l, Int.mul_assoc, pow_add'] at h
  rw [mod32 (by (first | lia | omega)) (by (first | lia | omega)), e3, h]
theorem ok_shl_big (hn : n = 0) (hc : Con V F) (hb : Opd.wf V.length (.k v)) (hf : look i F = some (.two .shl a (.k u))) (h31 : decide (u ≤ Int.ofNat 31) = true) (hv31 : decide (Int.ofNat 31 < v) = false) (ht : decide (u + v ≤ Int.ofNat 31) = false) :
    Ok V (.two .shl (.r i) (.k v)) (.const (.k (Builtin.bitAnd n 4294967295))) := by
  subst hn
  obtain ⟨h3, hi, ha, hu, ha', hu', hs⟩ := hc.two hf
  have ht : ¬ u + v ≤ 31 := of_decide_eq_false ht
  obtain ⟨e1, e2, l1, l2, e3⟩ := sh_lt hu hb h31 hv31
  have hu : 0 ≤ u ∧ u < 4294967296 := hu
  have hb : 0 ≤ v ∧ v < 4294967296 := hb
  refine ok_told (by unfold W32; (first | lia | omega)) (fun x h => ?_) two_pos
  simp only [Shp.sem, sem2, Option.some.injEq, v_k, v_r] at h hs
  rw [e1] at hs
  rw [e2, ← hs, wr_mul_l, Int.mul_assoc, pow_add', wr_pow (by (first | lia | omega))] at h
  exact h.symm
theorem ok_shr_shr (hc : Con V F) (hb : Opd.wf V.length (.k v)) (hf : look i F = some (.two .shr a (.k u))) (h31 : decide (u ≤ Int.ofNat 31) = true) (hv31 : decide (Int.ofNat 31 < v) = false) (ht : decide (u + v ≤ Int.ofNat 31) = true) :
    Ok V (.two .shr (.r i) (.k v)) (.two .shr a (.k (Builtin.bitAnd (u + v) 4294967295))) := by
  obtain ⟨h3, hi, ha, hu, ha', hu', hs⟩ := hc.two hf
  have ht : u + v ≤ 31 := of_dec ht
  obtain ⟨e1, e2, l1, l2, e3⟩ := sh_lt hu hb h31 hv31
  have hu : 0 ≤ u ∧ u < 4294967296 := hu
  have hb : 0 ≤ v ∧ v < 4294967296 := hb
  have hA := Opd.W hc ha'
  rw [mask, wr_small (by (first | lia | omega)) (by (first | lia | omega))]
  refine ⟨⟨ha', by show 0 ≤ u + v ∧ u + v < 4294967296; (first | lia | omega)⟩, (fun _ _ h => by cases h), fun x h => ?_, lin_phi _ (by simp) h3 ha _ _⟩
  simp only [Shp.sem, sem2, Option.some.injEq, v_k, v_r] at h hs ⊢
  have d1 := div_pow_lo (n := u.toNat) hA.1
  rw [e1, wr_small d1.1 (by unfold W32 at hA; (first | lia | omega))] at hs
  rw [e2, ← hs, Int.ediv_ediv_of_nonneg (Int.le_of_lt (pow_pos _)), pow_add'] at h
  rw [mod32 (by (first | lia | omega)) (by (first | lia | omega)), e3, h]
theorem ok_shr_big (hn : n = 0) (hc : Con V F) (hb : Opd.wf V.length (.k v)) (hf : look i F = some (.two .shr a (.k u))) (h31 : decide (u ≤ Int.ofNat 31) = true) (hv31 : decide (Int.ofNat 31 < v) = false) (ht : decide (u + v ≤ Int.ofNat 31) = false) :
    Ok V (.two .shr (.r i) (.k v)) (.const (.k (Builtin.bitAnd n 4294967295))) := by
  subst hn
  obtain ⟨h3, hi, ha, hu, ha', hu', hs⟩ := hc.two hf
  have ht : ¬ u + v ≤ 31 := of_decide_eq_false ht
  obtain ⟨e1, e2, l1, l2, e3⟩ := sh_lt hu hb h31 hv31
  have hu : 0 ≤ u ∧ u < 4294967296 := hu
  have hb : 0 ≤ v ∧ v < 4294967296 := hb
  have hA := Opd.W hc ha'
  refine ok_told (by unfold W32; (first | lia | omega)) (fun x h => ?_) two_pos
  simp only [Shp.sem, sem2, Option.some.injEq, v_k, v_r] at h hs
  have d1 := div_pow_lo (n := u.toNat) hA.1
  rw [e1, wr_small d1.1 (by unfold W32 at hA; (first | lia | omega))] at hs
  rw [e2, ← hs, Int.ediv_ediv_of_nonneg (Int.le_of_lt (pow_pos _)), pow_add', div_small hA.1 hA.2 (by (first | lia | omega))] at h
  rw [← h]; rfl
theorem sar_sem (hc : Con V F) (hb : Opd.wf V.length (.k v)) (hf : look i F = some (.two .sar a (.k u))) (h31 : decide (u ≤ Int.ofNat 31) = true) (hv31 : decide (Int.ofNat 31 < v) = false) :
    sem2 .sar (V.getD i 0) v = some (wr (sg (a.v V) / 2 ^ (u.toNat + v.toNat))) := by
  obtain ⟨h3, hi, ha, hu, ha', hu', hs⟩ := hc.two hf
  obtain ⟨e1, e2, l1, l2, e3⟩ := sh_lt hu hb h31 hv31
  have hA := Opd.W hc ha'
  simp only [sem2, Option.some.injEq, v_k, v_r] at hs ⊢
  rw [e1] at hs
  rw [e2, ← hs, sg_wr (sdiv_rng (sg_lo hA) (sg_hi hA)), Int.ediv_ediv_of_nonneg (Int.le_of_lt (pow_pos _)), pow_add']
theorem ok_sar_sar (hc : Con V F) (hb : Opd.wf V.length (.k v)) (hf : look i F = some (.two .sar a (.k u))) (h31 : decide (u ≤ Int.ofNat 31) = true) (hv31 : decide (Int.ofNat 31 < v) = false) (ht : decide (u + v ≤ Int.ofNat 31) = true) :
    Ok V (.two .sar (.r i) (.k v)) (.two .sar a (.k (Builtin.bitAnd (u + v) 4294967295))) := by
  have hs := sar_sem hc hb hf h31 hv31
  obtain ⟨h3, hi, ha, hu, ha', hu', _⟩ := hc.two hf
  have ht : u + v ≤ 31 := of_dec ht
  obtain ⟨e1, e2, l1, l2, e3⟩ := sh_lt hu hb h31 hv31
  have hu : 0 ≤ u ∧ u < 4294967296 := hu
  have hb : 0 ≤ v ∧ v < 4294967296 := hb
  rw [mask, wr_small (by (first | lia | omega)) (by (first | lia | omega))]
  refine ⟨⟨ha', by show 0 ≤ u + v ∧ u + v < 4294967296; (first | lia | omega)⟩, (fun _ _ h => by cases h), fun x h => ?_, lin_phi _ (by simp) h3 ha _ _⟩
  simp only [Shp.sem, v_k, v_r] at h ⊢
  rw [hs] at h
  rw [← h]
  unfold sem2
  dsimp only
  rw [mod32 (by (first | lia | omega)) (by (first | lia | omega)), e3]
theorem ok_sar_big (hn : n = 31) (hc : Con V F) (hb : Opd.wf V.length (.k v)) (hf : look i F = some (.two .sar a (.k u))) (h31 : decide (u ≤ Int.ofNat 31) = true) (hv31 : decide (Int.ofNat 31 < v) = false) (ht : decide (u + v ≤ Int.ofNat 31) = false) :
    Ok V (.two .sar (.r i) (.k v)) (.two .sar a (.k (Builtin.bitAnd n 4294967295))) := by
  subst hn
  have hs := sar_sem hc hb hf h31 hv31
  obtain ⟨h3, hi, ha, hu, ha', hu', _⟩ := hc.two hf
  have ht : ¬ u + v ≤ 31 := of_decide_eq_false ht
  obtain ⟨e1, e2, l1, l2, e3⟩ := sh_lt hu hb h31 hv31
  have hu : 0 ≤ u ∧ u < 4294967296 := hu
  have hb : 0 ≤ v ∧ v < 4294967296 := hb
  have hA := Opd.W hc ha'
  rw [mask, wr_small (by (first | lia | omega)) (by (first | lia | omega))]
  refine ⟨⟨ha', by show (0 : Int) ≤ 31 ∧ (31 : Int) < 4294967296; (first | lia | omega)⟩, (fun _ _ h => by cases h), fun x h => ?_, lin_phi _ (by simp) h3 ha _ _⟩
  simp only [Shp.sem, v_k, v_r] at h ⊢
  rw [hs] at h
  rw [← h]
  unfold sem2
  dsimp only
  rw [sdiv_big (sg_lo hA) (sg_hi hA) (by (first | lia | omega) : 31 ≤ u.toNat + v.toNat) (Nat.le_refl 31)]
  rfl
theorem ok_sar_shr (hi' : i < V.length) (hb : Opd.wf V.length (.k v)) (hc : Con V F) (h1 : lo ≤ sg (Opd.v V (.r i))) (h3 : decide (Int.ofNat 0 ≤ lo) = true) : Ok V (.two .sar (.r i) (.k v)) (.two .shr (.r i) (.k v)) := by
  have h3 : 0 ≤ lo := of_dec h3
  have e := sg_pos (hc.w i hi') (by rw [v_r] at h1; (first | lia | omega))
  refine ⟨⟨hi', hb⟩, (fun _ _ h => by cases h), fun x h => ?_, by show i - 2 + 2 < i - 2 + 3; (first | lia | omega)⟩
  simp only [Shp.sem, sem2, v_k, v_r] at h ⊢
  rw [e] at h
  exact h

theorem cmp_self {o : O2} (ho : o = .lt ∨ o = .ltu ∨ o = .ne) (hn : n = 0) (he : eqb a.d b.d = true) : Ok V (.two o a b) (.const (.k (Builtin.bitAnd n 4294967295))) := by
  have := eqb_opd he
  subst this hn
  refine ok_told (by unfold W32; (first | lia | omega)) (fun x h => ?_) two_pos
  simp only [Shp.sem] at h
  rcases ho with rfl | rfl | rfl <;> simp [sem2, b2i] at h <;> exact h.symm
theorem eq_self (hn : n = 1) (he : eqb a.d b.d = true) : Ok V (.two .eq a b) (.const (.k (Builtin.bitAnd n 4294967295))) := by
  have := eqb_opd he
  subst this hn
  refine ok_told (by unfold W32; (first | lia | omega)) (fun x h => ?_) two_pos
  simp only [Shp.sem] at h
  simp [sem2, b2i] at h; exact h.symm
theorem ok_lt_t (hn : n = 1) (h2 : sg (a.v V) ≤ hi) (h1 : lo' ≤ sg (b.v V)) (h : decide (hi < lo') = true) : Ok V (.two .lt a b) (.const (.k (Builtin.bitAnd n 4294967295))) := by
  have h : hi < lo' := of_dec h
  subst hn
  refine ok_told (by unfold W32; (first | lia | omega)) (fun x h => ?_) two_pos
  simp only [Shp.sem, sem2, Option.some.injEq] at h
  rw [← h, decide_eq_true (by (first | lia | omega))]; rfl
theorem ok_lt_f (hn : n = 0) (h1 : lo ≤ sg (a.v V)) (h2 : sg (b.v V) ≤ hi') (h : decide (hi' ≤ lo) = true) : Ok V (.two .lt a b) (.const (.k (Builtin.bitAnd n 4294967295))) := by
  have h : hi' ≤ lo := of_dec h
  subst hn
  refine ok_told (by unfold W32; (first | lia | omega)) (fun x h => ?_) two_pos
  simp only [Shp.sem, sem2, Option.some.injEq] at h
  rw [← h, decide_eq_false (by (first | lia | omega))]; rfl
theorem ok_ltu_t (hn : n = 1) (ha : a.wf V.length) (hb : b.wf V.length) (hc : Con V F) (h1 : lo ≤ sg (a.v V)) (h2 : sg (a.v V) ≤ hi) (h1' : lo' ≤ sg (b.v V)) (p1 : decide (Int.ofNat 0 ≤ lo) = true) (p2 : decide (Int.ofNat 0 ≤ lo') = true) (h : decide (hi < lo') = true) : Ok V (.two .ltu a b) (.const (.k (Builtin.bitAnd n 4294967295))) := by
  have h : hi < lo' := of_dec h
  have p1 : 0 ≤ lo := of_dec p1
  have p2 : 0 ≤ lo' := of_dec p2
  have e1 := sg_pos (Opd.W hc ha) (by (first | lia | omega))
  have e2 := sg_pos (Opd.W hc hb) (by (first | lia | omega))
  subst hn
  refine ok_told (by unfold W32; (first | lia | omega)) (fun x h => ?_) two_pos
  simp only [Shp.sem, sem2, Option.some.injEq] at h
  rw [← h, decide_eq_true (by (first | lia | omega))]; rfl
theorem ok_ltu_f (hn : n = 0) (ha : a.wf V.length) (hb : b.wf V.length) (hc : Con V F) (h1 : lo ≤ sg (a.v V)) (h1' : lo' ≤ sg (b.v V)) (h2 : sg (b.v V) ≤ hi') (p1 : decide (Int.ofNat 0 ≤ lo) = true) (p2 : decide (Int.ofNat 0 ≤ lo') = true) (h : decide (hi' ≤ lo) = true) : Ok V (.two .ltu a b) (.const (.k (Builtin.bitAnd n 4294967295))) := by
  have h : hi' ≤ lo := of_dec h
  have p1 : 0 ≤ lo := of_dec p1
  have p2 : 0 ≤ lo' := of_dec p2
  have e1 := sg_pos (Opd.W hc ha) (by (first | lia | omega))
  have e2 := sg_pos (Opd.W hc hb) (by (first | lia | omega))
  subst hn
  refine ok_told (by unfold W32; (first | lia | omega)) (fun x h => ?_) two_pos
  simp only [Shp.sem, sem2, Option.some.injEq] at h
  rw [← h, decide_eq_false (by (first | lia | omega))]; rfl
theorem ok_ltu_b0 (hn : n = 0) (ha : a.wf V.length) (hc : Con V F) {t : Str} {w : Int} (hw : w = 0) (h : eqb (Opd.d (.k v)) (.tup [.str t, .int w]) = true) : Ok V (.two .ltu a (.k v)) (.const (.k (Builtin.bitAnd n 4294967295))) := by
  have := is_num h
  subst this hn hw
  have := Opd.W hc ha
  refine ok_told (by unfold W32; (first | lia | omega)) (fun x h => ?_) two_pos
  simp only [Shp.sem, v_k] at h
  simp only [sem2, Option.some.injEq] at h
  rw [← h, decide_eq_false (by unfold W32 at this; (first | lia | omega))]; rfl
theorem ok_ltu_am (hn : n = 0) (hb : b.wf V.length) (hc : Con V F) {t : Str} {w : Int} (hw : w = 4294967295) (h : eqb (Opd.d (.k u)) (.tup [.str t, .int w]) = true) : Ok V (.two .ltu (.k u) b) (.const (.k (Builtin.bitAnd n 4294967295))) := by
  have := is_num h
  subst this hn hw
  have := Opd.W hc hb
  refine ok_told (by unfold W32; (first | lia | omega)) (fun x h => ?_) two_pos
  simp only [Shp.sem, v_k] at h
  simp only [sem2, Option.some.injEq] at h
  rw [← h, decide_eq_false (by unfold W32 at this; (first | lia | omega))]; rfl
theorem ok_ltu_b1 (hn : n = 0) (hi' : i < V.length) (hc : Con V F) {t : Str} {w : Int} (hw : w = 1) (h : eqb (Opd.d (.k v)) (.tup [.str t, .int w]) = true) : Ok V (.two .ltu (.r i) (.k v)) (.two .eq (.r i) (.k (Builtin.bitAnd n 4294967295))) := by
  have := is_num h
  subst this hn hw
  have := hc.w i hi'
  refine ⟨⟨hi', by show 0 ≤ _ ∧ _; rw [mask]; exact ⟨wr_lo _, wr_hi _⟩⟩, (fun _ _ h => by cases h), fun x h => ?_, by show 3 * (i - 2) + 3 < 3 * (i - 2) + 4; (first | lia | omega)⟩
  simp only [Shp.sem, v_k, v_r, mask] at h ⊢
  simp only [sem2, Option.some.injEq] at h ⊢
  rw [← h]
  congr 1
  unfold wr W32 at *
  exact decide_eq_decide.mpr (by (first | lia | omega))
theorem ok_ltu_a0 (hn : n = 0) (hj : j < V.length) (hc : Con V F) {t : Str} {w : Int} (hw : w = 0) (h : eqb (Opd.d (.k u)) (.tup [.str t, .int w]) = true) : Ok V (.two .ltu (.k u) (.r j)) (.two .ne (.r j) (.k (Builtin.bitAnd n 4294967295))) := by
  have := is_num h
  subst this hn hw
  have := hc.w j hj
  refine ⟨⟨hj, by show 0 ≤ _ ∧ _; rw [mask]; exact ⟨wr_lo _, wr_hi _⟩⟩, (fun _ _ h => by cases h), fun x h => ?_, by show 3 * (j - 2) + 4 < 3 * (j - 2) + 5; (first | lia | omega)⟩
  simp only [Shp.sem, v_k, v_r, mask] at h ⊢
  simp only [sem2, Option.some.injEq] at h ⊢
  rw [← h, ← decide_not]
  congr 1
  unfold wr W32 at *
  exact decide_eq_decide.mpr (by (first | lia | omega))
end
end Mine.Internal

end
section
open PySem PySem.W PyProof.Rows
set_option Elab.async false
set_option tactic.hygienic false
set_option backward.match.sparseCases false
set_option bootstrap.genMatcherCode false
namespace Mine.Internal
section
variable {V : List Int} {F : Fcs} {i j : Nat} {o o' : O2} {o1 : O1} {a b p q z : Opd} {u v c lo hi lo' hi' n x y x' y' : Int}
noncomputable def EN (o : O2) : Prop := o = .eq ∨ o = .ne
theorem en_iff (ho : EN o) (h : x = y ↔ x' = y') : sem2 o x y = sem2 o x' y' := by
  rcases ho with rfl | rfl <;> (simp only [sem2]; rw [decide_eq_decide.mpr h])
theorem en_ge (ho : EN o) : 3 * (i - 2) + 3 ≤ (Shp.two o (.r i) (.k v)).phi := by
  rcases ho with rfl | rfl
  · exact Nat.le_refl (3 * (i - 2) + 3)
  · exact Nat.le_succ (3 * (i - 2) + 3)
theorem en_phi (ho : EN o) (ho' : EN o') (h3 : 3 ≤ i) (ha : a.wf i) (hb : b.wf i) : (Shp.two o' a b).phi < (Shp.two o (.r i) (.k v)).phi := by
  refine Nat.lt_of_lt_of_le ?_ (en_ge ho)
  cases a with
  | k x =>
    cases b with
    | k y => exact Nat.le_add_left 2 (3 * (i - 2) + 1)
    | r y =>
      have hb : y < i := hb
      rcases ho' with rfl | rfl
      · show 3 * (y - 2) + 4 < 3 * (i - 2) + 3; (first | lia | omega)
      · show 3 * (y - 2) + 5 < 3 * (i - 2) + 3; (first | lia | omega)
  | r x =>
    have ha : x < i := ha
    cases b with
    | k y =>
      rcases ho' with rfl | rfl
      · show 3 * (x - 2) + 3 < 3 * (i - 2) + 3; (first | lia | omega)
      · show 3 * (x - 2) + 4 < 3 * (i - 2) + 3; (first | lia | omega)
    | r y => rcases ho' with rfl | rfl <;> exact Nat.le_add_left 2 (3 * (i - 2) + 1)
theorem en_phi1 (ho : EN o) (ho' : EN o') (h3 : 3 ≤ i) (ha : a.wf i) : (Shp.two o' a (.k u)).phi < (Shp.two o (.r i) (.k v)).phi := by
  cases a with
  | k x => exact Nat.lt_of_lt_of_le (Nat.le_add_left 2 (3 * (i - 2) + 1)) (en_ge ho)
  | r x =>
    refine Nat.lt_of_lt_of_le ?_ (en_ge ho)
    have ha : x < i := ha
    rcases ho' with rfl | rfl
    · show 3 * (x - 2) + 3 < 3 * (i - 2) + 3; (first | lia | omega)
    · show 3 * (x - 2) + 4 < 3 * (i - 2) + 3; (first | lia | omega)
theorem en_add (ho : EN o) (hc : Con V F) (hb : Opd.wf V.length (.k v)) (hf : look i F = some (.two .add a (.k u))) : Ok V (.two o (.r i) (.k v)) (.two o a (.k (Builtin.bitAnd (v - u) 4294967295))) := by
  obtain ⟨h3, hi, ha, hu, ha', hu', hs⟩ := hc.two hf
  have hA := Opd.W hc ha'
  have hb : W32 v := hb
  have hu' : W32 u := hu'
  rw [mask]
  refine ⟨⟨ha', wr_lo _, wr_hi _⟩, (fun _ _ h => by cases h), fun x h => ?_, en_phi1 ho ho h3 ha⟩
  rw [← h]
  simp only [Shp.sem, v_k, v_r]
  simp only [sem2, Option.some.injEq, v_k] at hs
  refine (en_iff ho ?_).symm
  rw [← hs]
  exact ⟨fun h => by rw [← h, wr_sub_l, Int.add_sub_cancel, wr_id hA], fun h => by rw [h, wr_add_l, Int.sub_add_cancel, wr_id hb]⟩
theorem en_xor (ho : EN o) (hc : Con V F) (hb : Opd.wf V.length (.k v)) (hf : look i F = some (.two .xor a (.k u))) : Ok V (.two o (.r i) (.k v)) (.two o a (.k (Builtin.bitAnd (Builtin.bitXor v u) 4294967295))) := by
  obtain ⟨h3, hi, ha, hu, ha', hu', hs⟩ := hc.two hf
  have hA := Opd.W hc ha'
  have hb : W32 v := hb
  have hu' : W32 u := hu'
  rw [mask, wr_id (W_xor hb hu')]
  refine ⟨⟨ha', W_xor hb hu'⟩, (fun _ _ h => by cases h), fun x h => ?_, en_phi1 ho ho h3 ha⟩
  rw [← h]
  simp only [Shp.sem, v_k, v_r]
  simp only [sem_xor, Option.some.injEq, v_k] at hs
  refine (en_iff ho ?_).symm
  rw [← hs]
  constructor
  · rintro rfl; exact (xor_cancel hA hu').symm
  · intro e; rw [e, xor_cancel hb hu']
theorem en_sub (ho : EN o) (hc : Con V F) (hf : look i F = some (.two .sub p q)) (h : decide (v = Int.ofNat 0) = true) : Ok V (.two o (.r i) (.k v)) (.two o p q) := by
  have h : v = 0 := of_dec h
  subst h
  obtain ⟨h3, hi, hp, hq, hp', hq', hs⟩ := hc.two hf
  have h1 := Opd.W hc hp'
  have h2 := Opd.W hc hq'
  refine ⟨⟨hp', hq'⟩, (fun _ _ h => by cases h), fun x h => ?_, en_phi ho ho h3 hp hq⟩
  rw [← h]
  simp only [Shp.sem, v_k, v_r]
  simp only [sem2, Option.some.injEq] at hs
  refine (en_iff ho ?_).symm
  rw [← hs]
  exact ⟨fun h => by rw [← wr_id h1, ← Int.sub_add_cancel (p.v V) (q.v V), ← wr_add_l, h, Int.zero_add, wr_id h2], fun h => by rw [h, Int.sub_self]; rfl⟩
theorem en_xor0 (ho : EN o) (hc : Con V F) (hf : look i F = some (.two .xor p q)) (h : decide (v = Int.ofNat 0) = true) : Ok V (.two o (.r i) (.k v)) (.two o p q) := by
  have h : v = 0 := of_dec h
  subst h
  obtain ⟨h3, hi, hp, hq, hp', hq', hs⟩ := hc.two hf
  have h1 := Opd.W hc hp'
  have h2 := Opd.W hc hq'
  refine ⟨⟨hp', hq'⟩, (fun _ _ h => by cases h), fun x h => ?_, en_phi ho ho h3 hp hq⟩
  rw [← h]
  simp only [Shp.sem, v_k, v_r]
  simp only [sem_xor, Option.some.injEq] at hs
  refine (en_iff ho ?_).symm
  rw [← hs]
  constructor
  · intro e
    have := xor_cancel h1 h2
    rw [e, bitXor_comm', xor_zero'] at this
    exact this.symm
  · intro e; rw [e, xor_self']
theorem en_neg (ho : EN o) (hc : Con V F) (hb : Opd.wf V.length (.k v)) (hf : look i F = some (.one .neg z)) : Ok V (.two o (.r i) (.k v)) (.two o z (.k (Builtin.bitAnd (-v) 4294967295))) := by
  obtain ⟨h3, hi, hz, hz', hs⟩ := hc.one hf
  have h1 := Opd.W hc hz'
  have hb : W32 v := hb
  rw [mask]
  refine ⟨⟨hz', wr_lo _, wr_hi _⟩, (fun _ _ h => by cases h), fun x h => ?_, en_phi1 ho ho h3 hz⟩
  rw [← h]
  simp only [Shp.sem, v_k, v_r]
  simp only [sem1] at hs
  refine (en_iff ho ?_).symm
  rw [← hs]
  exact ⟨fun h => by rw [← h, wr_neg, Int.zero_sub, Int.neg_neg, wr_id h1], fun h => by rw [h, wr_sub_r, Int.zero_sub, Int.neg_neg, wr_id hb]⟩
theorem en_not (ho : EN o) (hc : Con V F) (hb : Opd.wf V.length (.k v)) (hf : look i F = some (.one .not z)) : Ok V (.two o (.r i) (.k v)) (.two o z (.k (Builtin.bitAnd (Builtin.bitXor v 4294967295) 4294967295))) := by
  obtain ⟨h3, hi, hz, hz', hs⟩ := hc.one hf
  have h1 := Opd.W hc hz'
  have hb : W32 v := hb
  rw [mask, xor_mask hb, wr_small (by unfold W32 at hb; (first | lia | omega)) (by unfold W32 at hb; (first | lia | omega))]
  refine ⟨⟨hz', by show 0 ≤ 4294967295 - v ∧ 4294967295 - v < 4294967296; unfold W32 at hb; (first | lia | omega)⟩, (fun _ _ h => by cases h), fun x h => ?_, en_phi1 ho ho h3 hz⟩
  rw [← h]
  simp only [Shp.sem, v_k, v_r]
  simp only [sem1] at hs
  refine (en_iff ho ?_).symm
  rw [← hs]
  (first | lia | omega)
theorem sg_inj (hx : W32 x) (hy : W32 y) (h : sg x ≠ sg y) : x ≠ y := fun e => h (by rw [e])
theorem en_apart (ha : a.wf V.length) (hb : b.wf V.length) (hc : Con V F) (h : sg (a.v V) < sg (b.v V) ∨ sg (b.v V) < sg (a.v V)) : sem2 .eq (a.v V) (b.v V) = some 0 ∧ sem2 .ne (a.v V) (b.v V) = some 1 := by
  have : a.v V ≠ b.v V := fun e => by rw [e] at h; (first | lia | omega)
  simp [sem2, b2i, this]
theorem ok_eq_ap1 (hn : n = 0) (ha : a.wf V.length) (hb : b.wf V.length) (hc : Con V F) (h2 : sg (a.v V) ≤ hi) (h1 : lo' ≤ sg (b.v V)) (h : decide (hi < lo') = true) : Ok V (.two .eq a b) (.const (.k (Builtin.bitAnd n 4294967295))) := by
  have h : hi < lo' := of_dec h
  subst hn
  refine ok_told (by unfold W32; (first | lia | omega)) (fun x h => ?_) two_pos
  rw [Shp.sem, (en_apart ha hb hc (.inl (by (first | lia | omega)))).1] at h
  cases h; rfl
theorem ok_eq_ap2 (hn : n = 0) (ha : a.wf V.length) (hb : b.wf V.length) (hc : Con V F) (h1 : lo ≤ sg (a.v V)) (h2 : sg (b.v V) ≤ hi') (h : decide (hi' < lo) = true) : Ok V (.two .eq a b) (.const (.k (Builtin.bitAnd n 4294967295))) := by
  have h : hi' < lo := of_dec h
  subst hn
  refine ok_told (by unfold W32; (first | lia | omega)) (fun x h => ?_) two_pos
  rw [Shp.sem, (en_apart ha hb hc (.inr (by (first | lia | omega)))).1] at h
  cases h; rfl
theorem ok_ne_ap1 (hn : n = 1) (ha : a.wf V.length) (hb : b.wf V.length) (hc : Con V F) (h2 : sg (a.v V) ≤ hi) (h1 : lo' ≤ sg (b.v V)) (h : decide (hi < lo') = true) : Ok V (.two .ne a b) (.const (.k (Builtin.bitAnd n 4294967295))) := by
  have h : hi < lo' := of_dec h
  subst hn
  refine ok_told (by unfold W32; (first | lia | omega)) (fun x h => ?_) two_pos
  rw [Shp.sem, (en_apart ha hb hc (.inl (by (first | lia | omega)))).2] at h
  cases h; rfl
theorem ok_ne_ap2 (hn : n = 1) (ha : a.wf V.length) (hb : b.wf V.length) (hc : Con V F) (h1 : lo ≤ sg (a.v V)) (h2 : sg (b.v V) ≤ hi') (h : decide (hi' < lo) = true) : Ok V (.two .ne a b) (.const (.k (Builtin.bitAnd n 4294967295))) := by
  have h : hi' < lo := of_dec h
  subst hn
  refine ok_told (by unfold W32; (first | lia | omega)) (fun x h => ?_) two_pos
  rw [Shp.sem, (en_apart ha hb hc (.inr (by (first | lia | omega)))).2] at h
  cases h; rfl

noncomputable def isCmp : O2 → Bool
  | .lt => true
  | .ltu => true
  | .eq => true
  | .ne => true
  | _ => false
theorem cmp_bit (ho : isCmp o = true) : ∃ t : Bool, sem2 o x y = some (b2i t) := by
  cases o <;> first | exact ⟨_, rfl⟩ | exact absurd ho (by decide)
theorem bit01 (t : Bool) : b2i t = 0 ∨ b2i t = 1 := by cases t <;> simp [b2i]
theorem near (hb : Opd.wf V.length (.k v)) (e1 : lo = 0 ∧ hi = 1) (e2 : lo' = sg v ∧ hi' = sg v) (n1 : decide (hi < lo') = false) (n2 : decide (hi' < lo) = false) : v = 0 ∨ v = 1 := by
  have n1 : ¬ hi < lo' := of_decide_eq_false n1
  have n2 : ¬ hi' < lo := of_decide_eq_false n2
  obtain ⟨rfl, rfl⟩ := e1
  obtain ⟨rfl, rfl⟩ := e2
  have hb : 0 ≤ v ∧ v < 4294967296 := hb
  unfold sg at *
  split at n1 <;> (first | lia | omega)
theorem tr_same (ho : isCmp o' = true) (hc : Con V F) (hf : look i F = some (.two o' p q)) (hv : v = 0 ∨ v = 1) (h : o = .eq ∧ v = 1 ∨ o = .ne ∧ v ≠ 1) : Ok V (.two o (.r i) (.k v)) (.copy (.r i)) := by
  obtain ⟨h3, hi, hp, hq, hp', hq', hs⟩ := hc.two hf
  obtain ⟨t, ht⟩ := cmp_bit (x := p.v V) (y := q.v V) ho
  rw [ht] at hs
  refine ok_same (a := .r i) hi (fun x hx => ?_) two_pos
  simp only [Shp.sem, v_k, v_r] at hx ⊢
  injection hs with hs
  rw [← hs] at hx ⊢
  rcases h with ⟨rfl, rfl⟩ | ⟨rfl, hv1⟩
  · cases t <;> simp [sem2, b2i] at hx ⊢ <;> (first | lia | omega)
  · have : v = 0 := by (first | lia | omega)
    subst this
    cases t <;> simp [sem2, b2i] at hx ⊢ <;> (first | lia | omega)
theorem tr_same_eq (ho : isCmp o' = true) (hc : Con V F) (hf : look i F = some (.two o' p q)) (hb : Opd.wf V.length (.k v)) (e1 : lo = 0 ∧ hi = 1) (e2 : lo' = sg v ∧ hi' = sg v) (n1 : decide (hi < lo') = false) (n2 : decide (hi' < lo) = false)
    (h : (decide (v = 1) == true) = true) : Ok V (.two .eq (.r i) (.k v)) (.copy (.r i)) :=
  tr_same ho hc hf (near hb e1 e2 n1 n2) (.inl ⟨rfl, by simpa using h⟩)
theorem tr_same_ne (ho : isCmp o' = true) (hc : Con V F) (hf : look i F = some (.two o' p q)) (hb : Opd.wf V.length (.k v)) (e1 : lo = 0 ∧ hi = 1) (e2 : lo' = sg v ∧ hi' = sg v) (n1 : decide (hi < lo') = false) (n2 : decide (hi' < lo) = false)
    (h : (decide (v = 1) == false) = true) : Ok V (.two .ne (.r i) (.k v)) (.copy (.r i)) :=
  tr_same ho hc hf (near hb e1 e2 n1 n2) (.inr ⟨rfl, by simpa using h⟩)
theorem tr_flip (hc : Con V F) (g : Bool) (hf : look i F = some (.two (if g then .eq else .ne) p q)) (hv : v = 0 ∨ v = 1) (h : o = .eq ∧ v ≠ 1 ∨ o = .ne ∧ v = 1) : Ok V (.two o (.r i) (.k v)) (.two (if g then .ne else .eq) p q) := by
  obtain ⟨h3, hi, hp, hq, hp', hq', hs⟩ := hc.two hf
  have ho : EN o := by rcases h with ⟨rfl, _⟩ | ⟨rfl, _⟩ <;> simp [EN]
  refine ⟨⟨hp', hq'⟩, (fun _ _ h => by cases h), fun x hx => ?_, en_phi ho (by cases g <;> simp [EN]) h3 hp hq⟩
  simp only [Shp.sem, v_k, v_r] at hx ⊢
  rw [← hx]
  cases g <;> simp only [Bool.false_eq_true, if_false, if_true] at hs ⊢ <;> simp only [sem2, Option.some.injEq] at hs <;> rcases h with ⟨rfl, h⟩ | ⟨rfl, rfl⟩
  all_goals first | (have : v = 0 := by (first | lia | omega)); subst this | skip
  all_goals (rw [← hs]; by_cases e : p.v V = q.v V <;> simp [sem2, b2i, e])
theorem tr_eq_e (hc : Con V F) (hf : look i F = some (.two .eq p q)) (hb : Opd.wf V.length (.k v)) (e1 : lo = 0 ∧ hi = 1) (e2 : lo' = sg v ∧ hi' = sg v) (n1 : decide (hi < lo') = false) (n2 : decide (hi' < lo) = false)
    (h : (decide (v = 1) == true) = false) : Ok V (.two .eq (.r i) (.k v)) (.two .ne p q) := tr_flip hc true hf (near hb e1 e2 n1 n2) (.inl ⟨rfl, by simpa using h⟩)
theorem tr_eq_n (hc : Con V F) (hf : look i F = some (.two .ne p q)) (hb : Opd.wf V.length (.k v)) (e1 : lo = 0 ∧ hi = 1) (e2 : lo' = sg v ∧ hi' = sg v) (n1 : decide (hi < lo') = false) (n2 : decide (hi' < lo) = false)
    (h : (decide (v = 1) == true) = false) : Ok V (.two .eq (.r i) (.k v)) (.two .eq p q) := tr_flip hc false hf (near hb e1 e2 n1 n2) (.inl ⟨rfl, by simpa using h⟩)
theorem tr_ne_e (hc : Con V F) (hf : look i F = some (.two .eq p q)) (h : (decide (v = 1) == false) = false) : Ok V (.two .ne (.r i) (.k v)) (.two .ne p q) := by
  have h : v = 1 := by simpa using h
  exact tr_flip hc true hf (.inr h) (.inr ⟨rfl, h⟩)
theorem tr_ne_n (hc : Con V F) (hf : look i F = some (.two .ne p q)) (h : (decide (v = 1) == false) = false) : Ok V (.two .ne (.r i) (.k v)) (.two .eq p q) := by
  have h : v = 1 := by simpa using h
  exact tr_flip hc false hf (.inr h) (.inr ⟨rfl, h⟩)
theorem tr_ne_0 (hn : n = 0) (ho : isCmp o' = true) (hc : Con V F) (hf : look i F = some (.two o' p q)) (h : (decide (v = 1) == false) = false) : Ok V (.two .ne (.r i) (.k v)) (.two .eq (.r i) (.k (Builtin.bitAnd n 4294967295))) := by
  have h : v = 1 := by simpa using h
  subst h hn
  obtain ⟨h3, hi, hp, hq, hp', hq', hs⟩ := hc.two hf
  obtain ⟨t, ht⟩ := cmp_bit (x := p.v V) (y := q.v V) ho
  rw [ht] at hs
  injection hs with hs
  rw [mask]
  refine ⟨⟨hi, wr_lo _, wr_hi _⟩, (fun _ _ h => by cases h), fun x hx => ?_, by show 3 * (i - 2) + 3 < 3 * (i - 2) + 4; (first | lia | omega)⟩
  simp only [Shp.sem, v_k, v_r, ← hs] at hx ⊢
  cases t <;> simp [sem2, b2i, wr] at hx ⊢ <;> (first | lia | omega)

theorem emod_sg {n X : Int} (hd : n ∣ 4294967296) (hw : W32 X) : X % n = sg X % n := by
  have := Int.emod_emod_of_dvd (sg X) hd
  rw [← this]
  show _ = wr (sg X) % n
  rw [wr_sg hw]
theorem ext_sId {n X : Int} (hd : n ∣ 4294967296) (hh : n / 2 + n / 2 = n) (hw : W32 X) (h1 : -(n / 2) ≤ sg X) (h2 : sg X < n / 2) : ext true n X = X := by
  unfold ext
  rw [emod_sg hd hw]
  by_cases p : 0 ≤ sg X
  · rw [Int.emod_eq_of_lt p (by (first | lia | omega)), if_neg (by rw [Bool.true_and, decide_eq_true_eq]; (first | lia | omega)), wr_sg hw]
  · have q : sg X % n = sg X + n := by
      have := Int.add_mul_emod_self_left (sg X) n 1
      rw [Int.mul_one] at this
      rw [← this]; exact Int.emod_eq_of_lt (by (first | lia | omega)) (by (first | lia | omega))
    rw [q, if_pos (by rw [Bool.true_and, decide_eq_true_eq]; (first | lia | omega)), Int.add_sub_cancel, wr_sg hw]
theorem ext_zId {n X : Int} (hd : n ∣ 4294967296) (hw : W32 X) (h1 : 0 ≤ sg X) (h2 : sg X < n) : ext false n X = X := by
  show wr (X % n) = X
  rw [emod_sg hd hw, Int.emod_eq_of_lt h1 h2, wr_sg hw]
theorem ext8s {X : Int} (hw : W32 X) (h1 : -128 ≤ sg X) (h2 : sg X ≤ 127) : ext true 256 X = X := ext_sId ⟨16777216, rfl⟩ rfl hw h1 (Int.lt_add_one_of_le h2)
theorem ext16s {X : Int} (hw : W32 X) (h1 : -32768 ≤ sg X) (h2 : sg X ≤ 32767) : ext true 65536 X = X := ext_sId ⟨65536, rfl⟩ rfl hw h1 (Int.lt_add_one_of_le h2)
theorem ext8z {X : Int} (hw : W32 X) (h1 : 0 ≤ sg X) (h2 : sg X ≤ 255) : ext false 256 X = X := ext_zId ⟨16777216, rfl⟩ hw h1 (Int.lt_add_one_of_le h2)
theorem ext16z {X : Int} (hw : W32 X) (h1 : 0 ≤ sg X) (h2 : sg X ≤ 65535) : ext false 65536 X = X := ext_zId ⟨65536, rfl⟩ hw h1 (Int.lt_add_one_of_le h2)
theorem ok_wid8s (hi' : i < V.length) (hc : Con V F) (h1 : lo ≤ sg (Opd.v V (.r i))) (h2 : sg (Opd.v V (.r i)) ≤ hi) (p1 : decide (-128 ≤ lo) = true) (p2 : decide (hi ≤ 127) = true) : Ok V (.one .sx8 (.r i)) (.copy (.r i)) := by
  have p1 : -128 ≤ lo := of_dec p1
  have p2 : hi ≤ 127 := of_dec p2
  have hw := hc.w i hi'
  refine ok_same (a := .r i) hi' (fun x hx => ?_) (by show 0 < _ + 1; (first | lia | omega))
  simp only [Shp.sem, sem1, Option.some.injEq, v_r] at hx h1 h2 ⊢
  rw [← hx]
  exact ext8s hw (by (first | lia | omega)) (by (first | lia | omega))
theorem ok_wid16s (hi' : i < V.length) (hc : Con V F) (h1 : lo ≤ sg (Opd.v V (.r i))) (h2 : sg (Opd.v V (.r i)) ≤ hi) (p1 : decide (-32768 ≤ lo) = true) (p2 : decide (hi ≤ 32767) = true) : Ok V (.one .sx16 (.r i)) (.copy (.r i)) := by
  have p1 : -32768 ≤ lo := of_dec p1
  have p2 : hi ≤ 32767 := of_dec p2
  have hw := hc.w i hi'
  refine ok_same (a := .r i) hi' (fun x hx => ?_) (by show 0 < _ + 1; (first | lia | omega))
  simp only [Shp.sem, sem1, Option.some.injEq, v_r] at hx h1 h2 ⊢
  rw [← hx]
  exact ext16s hw (by (first | lia | omega)) (by (first | lia | omega))
theorem ok_wid8z (hi' : i < V.length) (hc : Con V F) (h1 : lo ≤ sg (Opd.v V (.r i))) (h2 : sg (Opd.v V (.r i)) ≤ hi) (p1 : decide (0 ≤ lo) = true) (p2 : decide (hi ≤ 255) = true) : Ok V (.one .zx8 (.r i)) (.copy (.r i)) := by
  have p1 : 0 ≤ lo := of_dec p1
  have p2 : hi ≤ 255 := of_dec p2
  have hw := hc.w i hi'
  refine ok_same (a := .r i) hi' (fun x hx => ?_) (by show 0 < _ + 1; (first | lia | omega))
  simp only [Shp.sem, sem1, Option.some.injEq, v_r] at hx h1 h2 ⊢
  rw [← hx]
  exact ext8z hw (by (first | lia | omega)) (by (first | lia | omega))
theorem ok_wid16z (hi' : i < V.length) (hc : Con V F) (h1 : lo ≤ sg (Opd.v V (.r i))) (h2 : sg (Opd.v V (.r i)) ≤ hi) (p1 : decide (0 ≤ lo) = true) (p2 : decide (hi ≤ 65535) = true) : Ok V (.one .zx16 (.r i)) (.copy (.r i)) := by
  have p1 : 0 ≤ lo := of_dec p1
  have p2 : hi ≤ 65535 := of_dec p2
  have hw := hc.w i hi'
  refine ok_same (a := .r i) hi' (fun x hx => ?_) (by show 0 < _ + 1; (first | lia | omega))
  simp only [Shp.sem, sem1, Option.some.injEq, v_r] at hx h1 h2 ⊢
  rw [← hx]
  exact ext16z hw (by (first | lia | omega)) (by (first | lia | omega))
noncomputable def wBits : O1 → Int
  | .sx8 => 8
  | .zx8 => 8
  | _ => 16
theorem ok_wid_in (ho : o1 = .sx8 ∨ o1 = .sx16 ∨ o1 = .zx8 ∨ o1 = .zx16) (hi' : i < V.length) (hz : z.wf i) (h3 : 3 ≤ i) (h : (z.v V) % 2 ^ (wBits o1).toNat = (V.getD i 0) % 2 ^ (wBits o1).toNat) : Ok V (.one o1 (.r i)) (.one o1 z) := by
  refine ⟨hz.up (Nat.le_of_lt hi'), (fun _ _ h => by cases h), fun x hx => ?_, ?_⟩
  · rw [← hx]
    simp only [Shp.sem, v_r]
    rcases ho with rfl | rfl | rfl | rfl <;> simp only [sem1, ext, wBits] at h ⊢ <;> (first | rw [show (z.v V) % 256 = (V.getD i 0) % 256 from h] | rw [show (z.v V) % 65536 = (V.getD i 0) % 65536 from h])
  · have := rk_lt hz h3
    cases z with
    | k _ => rcases ho with rfl | rfl | rfl | rfl <;> (show 1 < i - 2 + 1; (first | lia | omega))
    | r x => have : x - 2 < i - 2 := this; rcases ho with rfl | rfl | rfl | rfl <;> (show x - 2 + 1 < i - 2 + 1; (first | lia | omega))
end
end Mine.Internal
namespace Mine.Internal
theorem kk_udiv {v : Int} (hw : v = 0) (h : decide (v = Int.ofNat 0) = false) : False := of_decide_eq_false h hw
theorem kk_sh {v : Int} (hw : 31 < v) (h : decide (Int.ofNat 31 < v) = false) : False := of_decide_eq_false h hw
theorem kk_div1 {v : Int} (hw : v = 0 ∨ v = 4294967295) (h : decide (v = Int.ofNat 1) = true) : False := by
  have : v = 1 := of_dec h
  (first | lia | omega)
theorem kk_div2 {v : Int} (hw : v = 0 ∨ v = 4294967295) (h : decide (v = Int.ofNat 0) = false) (ht : decide (v < 2147483648) = true) : False := by
  have h1 : v ≠ 0 := of_decide_eq_false h
  have h2 : v < 2147483648 := of_dec ht
  (first | lia | omega)
end Mine.Internal

end
section
open PySem PySem.W PyProof.Rows
set_option Elab.async false
set_option tactic.hygienic false
set_option backward.match.sparseCases false
set_option bootstrap.genMatcherCode false
namespace Mine.Internal
theorem fd1 {V : List Int} {u v : Int} (ha : Opd.wf V.length (.k u)) (hb : Opd.wf V.length (.k v)) (h : decide (v = Int.ofNat 0) = false) : v ≠ 0 ∧ v.natAbs < 2 ^ 63 := by
  have h : v ≠ 0 := of_decide_eq_false h
  have hb : 0 ≤ v ∧ v < 4294967296 := hb
  (first | lia | omega)
theorem fd2 {V : List Int} {u v : Int} (ha : Opd.wf V.length (.k u)) (hb : Opd.wf V.length (.k v)) (h : decide (v = Int.ofNat 0) = false) : v ≠ 0 := of_decide_eq_false h
theorem fd3 {V : List Int} {u v x y : Int} (hx : x = u - 4294967296 ∨ x = u) (hy : y = v - 4294967296 ∨ y = v) (ha : Opd.wf V.length (.k u)) (hb : Opd.wf V.length (.k v)) (h : decide (v = Int.ofNat 0) = false) :
    (if y < 0 then -y else y) ≠ 0 ∧ (if y < 0 then -y else y).natAbs < 2 ^ 63 := by
  have h : v ≠ 0 := of_decide_eq_false h
  have hb : 0 ≤ v ∧ v < 4294967296 := hb
  split <;> rcases hy with rfl | rfl <;> (first | lia | omega)
theorem fd4 {V : List Int} {u v x y : Int} (hx : x = u - 4294967296 ∨ x = u) (hy : y = v - 4294967296 ∨ y = v) (ha : Opd.wf V.length (.k u)) (hb : Opd.wf V.length (.k v)) (h : decide (v = Int.ofNat 0) = false) :
    ((if x < 0 then -x else x).fdiv (if y < 0 then -y else y)).natAbs < 2 ^ 63 ∧ y.natAbs < 2 ^ 63 := by
  have h : v ≠ 0 := of_decide_eq_false h
  have hb : 0 ≤ v ∧ v < 4294967296 := hb
  have ha : 0 ≤ u ∧ u < 4294967296 := ha
  have key : ∀ p q : Int, 0 ≤ p → p ≤ 4294967296 → 0 ≤ q → (p.fdiv q).natAbs < 2 ^ 63 := fun p q h1 h2 h3 => by
    rw [Int.fdiv_eq_ediv_of_nonneg _ h3]
    have a := Int.ediv_nonneg h1 h3
    have b := Int.ediv_le_self q h1
    (first | lia | omega)
  refine ⟨key _ _ (by split <;> (first | lia | omega)) (by split <;> rcases hx with rfl | rfl <;> (first | lia | omega)) (by split <;> (first | lia | omega)), by rcases hy with rfl | rfl <;> (first | lia | omega)⟩
theorem fd5 {V : List Int} {u v x y : Int} (hx : x = u - 4294967296 ∨ x = u) (hy : y = v - 4294967296 ∨ y = v) (ha : Opd.wf V.length (.k u)) (hb : Opd.wf V.length (.k v)) (h : decide (v = Int.ofNat 0) = false) :
    (-(if x < 0 then -x else x).fdiv (if y < 0 then -y else y)).natAbs < 2 ^ 63 ∧ y.natAbs < 2 ^ 63 := by
  have := fd4 hx hy ha hb h
  rw [Int.natAbs_neg]; exact this
section
variable {V : List Int} {F : Fcs} {i j : Nat} {o o' : O2} {o1 : O1} {a b p q z : Opd} {u v c lo hi lo' hi' n x y x' y' : Int}
theorem ok_num {s : Shp} (hs : ∀ x, s.sem V = some x → x = wr n) (hp : 0 < s.phi) : Ok V s (.const (.k (Builtin.bitAnd (Builtin.bitAnd n 4294967295) 4294967295))) := by
  refine ok_told (by rw [mask]; exact ⟨wr_lo _, wr_hi _⟩) (fun x h => ?_) hp
  rw [mask]; exact hs x h
theorem wk_add : Ok V (.two .add (.k u) (.k v)) (.const (.k (Builtin.bitAnd (Builtin.bitAnd (u + v) 4294967295) 4294967295))) := ok_num (fun x h => by cases h; rfl) two_pos
theorem wk_sub : Ok V (.two .sub (.k u) (.k v)) (.const (.k (Builtin.bitAnd (Builtin.bitAnd (u - v) 4294967295) 4294967295))) := ok_num (fun x h => by cases h; rfl) two_pos
theorem wk_mul : Ok V (.two .mul (.k u) (.k v)) (.const (.k (Builtin.bitAnd (Builtin.bitAnd (u * v) 4294967295) 4294967295))) := ok_num (fun x h => by cases h; rfl) two_pos
theorem wk_and (ha : Opd.wf V.length (.k u)) (hb : Opd.wf V.length (.k v)) : Ok V (.two .and (.k u) (.k v)) (.const (.k (Builtin.bitAnd (Builtin.bitAnd u v) 4294967295))) := ok_told (W_and ha hb) (fun x h => by cases h; rfl) two_pos
theorem wk_or (ha : Opd.wf V.length (.k u)) (hb : Opd.wf V.length (.k v)) : Ok V (.two .or (.k u) (.k v)) (.const (.k (Builtin.bitAnd (Builtin.bitOr u v) 4294967295))) := ok_told (W_or ha hb) (fun x h => by rw [Shp.sem, sem_or] at h; cases h; rfl) two_pos
theorem wk_xor (ha : Opd.wf V.length (.k u)) (hb : Opd.wf V.length (.k v)) : Ok V (.two .xor (.k u) (.k v)) (.const (.k (Builtin.bitAnd (Builtin.bitXor u v) 4294967295))) := ok_told (W_xor ha hb) (fun x h => by rw [Shp.sem, sem_xor] at h; cases h; rfl) two_pos
theorem wk_shl (hb : Opd.wf V.length (.k v)) (h : decide (31 < v) = false) : Ok V (.two .shl (.k u) (.k v)) (.const (.k (Builtin.bitAnd (Builtin.bitAnd (u * 2 ^ v.toNat) 4294967295) 4294967295))) := by
  have h : ¬ 31 < v := of_decide_eq_false h
  have hb : 0 ≤ v ∧ v < 4294967296 := hb
  refine ok_num (fun x h => ?_) two_pos
  simp only [Shp.sem, sem2, v_k, Option.some.injEq] at h
  rw [← h, mod32 (by (first | lia | omega)) (by (first | lia | omega))]
theorem wk_shr (ha : Opd.wf V.length (.k u)) (hb : Opd.wf V.length (.k v)) (h : decide (31 < v) = false) : Ok V (.two .shr (.k u) (.k v)) (.const (.k (Builtin.bitAnd (u.fdiv (2 ^ v.toNat)) 4294967295))) := by
  have h : ¬ 31 < v := of_decide_eq_false h
  have hb : 0 ≤ v ∧ v < 4294967296 := hb
  have ha : 0 ≤ u ∧ u < 4294967296 := ha
  rw [Int.fdiv_eq_ediv_of_nonneg _ (Int.le_of_lt (pow_pos _))]
  have d := div_pow_lo (n := v.toNat) ha.1
  refine ok_told ⟨d.1, by (first | lia | omega)⟩ (fun x h => ?_) two_pos
  simp only [Shp.sem, sem2, v_k, Option.some.injEq] at h
  rw [← h, mod32 (by (first | lia | omega)) (by (first | lia | omega)), wr_small d.1 (by (first | lia | omega))]
theorem sg_t (h : decide (2147483648 ≤ u) = true) : u - 4294967296 = sg u := by unfold sg; rw [if_pos (of_dec h)]
theorem sg_f (h : decide (2147483648 ≤ u) = false) : u = sg u := by unfold sg; rw [if_neg (of_decide_eq_false h)]
theorem wk_sar (hx : x = sg u) (hb : Opd.wf V.length (.k v)) (h : decide (31 < v) = false) : Ok V (.two .sar (.k u) (.k v)) (.const (.k (Builtin.bitAnd (Builtin.bitAnd (x.fdiv (2 ^ v.toNat)) 4294967295) 4294967295))) := by
  have h : ¬ 31 < v := of_decide_eq_false h
  have hb : 0 ≤ v ∧ v < 4294967296 := hb
  rw [Int.fdiv_eq_ediv_of_nonneg _ (Int.le_of_lt (pow_pos _))]
  refine ok_num (fun z h => ?_) two_pos
  simp only [Shp.sem, sem2, v_k, Option.some.injEq] at h
  rw [← h, mod32 (by (first | lia | omega)) (by (first | lia | omega)), hx]
theorem wk_divu (ha : Opd.wf V.length (.k u)) (hb : Opd.wf V.length (.k v)) (h0 : decide (v = 0) = false) : Ok V (.two .divu (.k u) (.k v)) (.const (.k (Builtin.bitAnd (u.fdiv v) 4294967295))) := by
  have h0 : v ≠ 0 := of_decide_eq_false h0
  have hb : 0 ≤ v ∧ v < 4294967296 := hb
  have ha : 0 ≤ u ∧ u < 4294967296 := ha
  rw [Int.fdiv_eq_ediv_of_nonneg _ hb.1]
  refine ok_told ⟨Int.ediv_nonneg ha.1 hb.1, Int.lt_of_le_of_lt (Int.ediv_le_self _ ha.1) ha.2⟩ (fun x h => ?_) two_pos
  simp only [Shp.sem, v_k] at h
  simp only [sem2] at h
  rw [if_neg h0, Option.some.injEq, shQ_u ha.1 hb.1 ha.2] at h
  exact h.symm
theorem wk_remu (ha : Opd.wf V.length (.k u)) (hb : Opd.wf V.length (.k v)) (h0 : decide (v = 0) = false) : Ok V (.two .remu (.k u) (.k v)) (.const (.k (Builtin.bitAnd (u.fmod v) 4294967295))) := by
  have h0 : v ≠ 0 := of_decide_eq_false h0
  have hb : 0 ≤ v ∧ v < 4294967296 := hb
  have ha : 0 ≤ u ∧ u < 4294967296 := ha
  rw [Int.fmod_eq_emod_of_nonneg _ hb.1]
  have l1 := Int.emod_nonneg u h0
  have l2 := Int.emod_lt_of_pos u (by (first | lia | omega) : 0 < v)
  refine ok_told ⟨l1, by (first | lia | omega)⟩ (fun x h => ?_) two_pos
  simp only [Shp.sem, v_k] at h
  simp only [sem2] at h
  rw [if_neg h0, Option.some.injEq, shR_u ha.1 (by (first | lia | omega)) ha.2] at h
  exact h.symm
theorem fd_nat (x y : Int) : (if x < 0 then -x else x).fdiv (if y < 0 then -y else y) = ((x.natAbs / y.natAbs : Nat) : Int) := by
  have e : ∀ z : Int, (if z < 0 then -z else z) = (z.natAbs : Int) := fun z => by split <;> (first | lia | omega)
  rw [e, e, Int.fdiv_eq_ediv_of_nonneg _ (by (first | lia | omega))]
  simp
theorem wk_div_n (hx : x = sg u) (hy : y = sg v) (h0 : decide (v = 0) = false) (h : (!(decide (x < 0) == decide (y < 0))) = true) : Ok V (.two .div (.k u) (.k v)) (.const (.k (Builtin.bitAnd (Builtin.bitAnd (-(if x < 0 then -x else x).fdiv (if y < 0 then -y else y)) 4294967295) 4294967295))) := by
  have h : ¬ ((x < 0) = (y < 0)) := by simpa using h
  rw [fd_nat]
  refine ok_num (fun z hz => ?_) two_pos
  simp only [Shp.sem, v_k] at hz
  simp only [sem2] at hz
  split at hz
  · cases hz
  · injection hz with hz
    rw [← hz, ← hx, ← hy]
    unfold shQ
    rw [if_neg h]
theorem wk_div_p (hx : x = sg u) (hy : y = sg v) (h0 : decide (v = 0) = false) (h : (!(decide (x < 0) == decide (y < 0))) = false) : Ok V (.two .div (.k u) (.k v)) (.const (.k (Builtin.bitAnd (Builtin.bitAnd ((if x < 0 then -x else x).fdiv (if y < 0 then -y else y)) 4294967295) 4294967295))) := by
  have h : ((x < 0) = (y < 0)) := by simpa using h
  rw [fd_nat]
  refine ok_num (fun z hz => ?_) two_pos
  simp only [Shp.sem, v_k] at hz
  simp only [sem2] at hz
  split at hz
  · cases hz
  · injection hz with hz
    rw [← hz, ← hx, ← hy]
    unfold shQ
    rw [if_pos h]
theorem rem_n (x y : Int) : ((x.natAbs % y.natAbs : Nat) : Int) = (x.natAbs : Int) - ((x.natAbs / y.natAbs : Nat) : Int) * (y.natAbs : Int) := by
  have h := Nat.mod_add_div x.natAbs y.natAbs
  have h' : ((x.natAbs % y.natAbs : Nat) : Int) + (y.natAbs : Int) * ((x.natAbs / y.natAbs : Nat) : Int) = (x.natAbs : Int) := by exact_mod_cast h
  rw [Int.mul_comm] at h'
  (first | lia | omega)
theorem wk_rem_n (hx : x = sg u) (hy : y = sg v) (h0 : decide (v = 0) = false) (h : (!(decide (x < 0) == decide (y < 0))) = true) : Ok V (.two .rem (.k u) (.k v)) (.const (.k (Builtin.bitAnd (Builtin.bitAnd (x - (-(if x < 0 then -x else x).fdiv (if y < 0 then -y else y)) * y) 4294967295) 4294967295))) := by
  have h : ¬ ((x < 0) = (y < 0)) := by simpa using h
  rw [fd_nat]
  refine ok_num (fun z hz => ?_) two_pos
  simp only [Shp.sem, v_k] at hz
  simp only [sem2] at hz
  split at hz
  · cases hz
  · injection hz with hz
    rw [← hz, ← hx, ← hy]
    unfold shR
    rw [rem_n]
    congr 1
    rw [Int.neg_mul, Int.sub_neg]
    have hy0 : (x < 0 ∧ ¬ y < 0) ∨ (¬ x < 0 ∧ y < 0) := by
      by_cases a : x < 0 <;> by_cases b : y < 0 <;> simp [a, b] at h ⊢
    rcases hy0 with ⟨a, b⟩ | ⟨a, b⟩
    · rw [if_neg (by (first | lia | omega)), show (y.natAbs : Int) = y by (first | lia | omega), show (x.natAbs : Int) = -x by (first | lia | omega)]; (first | lia | omega)
    · rw [if_pos (by (first | lia | omega)), show (y.natAbs : Int) = -y by (first | lia | omega), show (x.natAbs : Int) = x by (first | lia | omega), Int.mul_neg]; (first | lia | omega)
theorem wk_rem_p (hx : x = sg u) (hy : y = sg v) (h0 : decide (v = 0) = false) (h : (!(decide (x < 0) == decide (y < 0))) = false) : Ok V (.two .rem (.k u) (.k v)) (.const (.k (Builtin.bitAnd (Builtin.bitAnd (x - ((if x < 0 then -x else x).fdiv (if y < 0 then -y else y)) * y) 4294967295) 4294967295))) := by
  have h : ((x < 0) = (y < 0)) := by simpa using h
  rw [fd_nat]
  refine ok_num (fun z hz => ?_) two_pos
  simp only [Shp.sem, v_k] at hz
  simp only [sem2] at hz
  split at hz
  · cases hz
  · injection hz with hz
    rw [← hz, ← hx, ← hy]
    unfold shR
    rw [rem_n]
    congr 1
    have hy0 : (x < 0 ∧ y < 0) ∨ (¬ x < 0 ∧ ¬ y < 0) := by
      by_cases a : x < 0 <;> by_cases b : y < 0 <;> simp [a, b] at h ⊢
    rcases hy0 with ⟨a, b⟩ | ⟨a, b⟩
    · rw [if_neg (by (first | lia | omega)), show (y.natAbs : Int) = -y by (first | lia | omega), show (x.natAbs : Int) = -x by (first | lia | omega), Int.mul_neg]; (first | lia | omega)
    · rw [if_pos (by (first | lia | omega)), show (y.natAbs : Int) = y by (first | lia | omega), show (x.natAbs : Int) = x by (first | lia | omega)]
theorem wk_bit {t : Bool} (ho : sem2 o u v = some (b2i t)) (hn : n = b2i t) : Ok V (.two o (.k u) (.k v)) (.const (.k (Builtin.bitAnd n 4294967295))) := by
  subst hn
  refine ok_told (by cases t <;> (unfold W32; decide)) (fun x h => ?_) two_pos
  rw [Shp.sem, v_k, v_k, ho] at h
  cases h; rfl
theorem wk_eq_t (hn : n = 1) (h : decide (u = v) = true) : Ok V (.two .eq (.k u) (.k v)) (.const (.k (Builtin.bitAnd n 4294967295))) := wk_bit (t := true) (by simp only [sem2]; rw [h]) hn
theorem wk_eq_f (hn : n = 0) (h : decide (u = v) = false) : Ok V (.two .eq (.k u) (.k v)) (.const (.k (Builtin.bitAnd n 4294967295))) := wk_bit (t := false) (by simp only [sem2]; rw [h]) hn
theorem wk_ne_t (hn : n = 1) (h : (!decide (u = v)) = true) : Ok V (.two .ne (.k u) (.k v)) (.const (.k (Builtin.bitAnd n 4294967295))) := wk_bit (t := true) (by simp only [sem2]; rw [h]) hn
theorem wk_ne_f (hn : n = 0) (h : (!decide (u = v)) = false) : Ok V (.two .ne (.k u) (.k v)) (.const (.k (Builtin.bitAnd n 4294967295))) := wk_bit (t := false) (by simp only [sem2]; rw [h]) hn
theorem wk_ltu_t (hn : n = 1) (h : decide (u < v) = true) : Ok V (.two .ltu (.k u) (.k v)) (.const (.k (Builtin.bitAnd n 4294967295))) := wk_bit (t := true) (by simp only [sem2]; rw [h]) hn
theorem wk_ltu_f (hn : n = 0) (h : decide (u < v) = false) : Ok V (.two .ltu (.k u) (.k v)) (.const (.k (Builtin.bitAnd n 4294967295))) := wk_bit (t := false) (by simp only [sem2]; rw [h]) hn
theorem wk_lt_t (hn : n = 1) (hx : x = sg u) (hy : y = sg v) (h : decide (x < y) = true) : Ok V (.two .lt (.k u) (.k v)) (.const (.k (Builtin.bitAnd n 4294967295))) := wk_bit (t := true) (by simp only [sem2]; rw [← hx, ← hy, h]) hn
theorem wk_lt_f (hn : n = 0) (hx : x = sg u) (hy : y = sg v) (h : decide (x < y) = false) : Ok V (.two .lt (.k u) (.k v)) (.const (.k (Builtin.bitAnd n 4294967295))) := wk_bit (t := false) (by simp only [sem2]; rw [← hx, ← hy, h]) hn
theorem one_pos : 0 < (Shp.one o1 (.k u)).phi := by cases o1 <;> (simp only [Shp.phi, phi1]; (first | lia | omega))
theorem wk_neg : Ok V (.one .neg (.k u)) (.const (.k (Builtin.bitAnd (Builtin.bitAnd (-u) 4294967295) 4294967295))) := ok_num (fun x h => by cases h; show wr (0 - u) = _; rw [Int.zero_sub]) one_pos
theorem wk_not (ha : Opd.wf V.length (.k u)) : Ok V (.one .not (.k u)) (.const (.k (Builtin.bitAnd (Builtin.bitXor u 4294967295) 4294967295))) := by
  rw [xor_mask ha]
  have ha : 0 ≤ u ∧ u < 4294967296 := ha
  exact ok_told (by unfold W32; (first | lia | omega)) (fun x h => by cases h; rfl) one_pos
theorem wk_s8t (h : decide ((1 * 2 ^ Int.toNat 8 : Int).fdiv 2 ≤ u.fmod (1 * 2 ^ Int.toNat 8)) = true) : Ok V (.one .sx8 (.k u)) (.const (.k (Builtin.bitAnd (Builtin.bitAnd (u.fmod (1 * 2 ^ Int.toNat 8) - 1 * 2 ^ Int.toNat 8) 4294967295) 4294967295))) := by
  have h : (128 : Int) ≤ u.fmod 256 := of_dec h
  refine ok_num (fun x hx => ?_) one_pos
  show x = wr (u.fmod 256 - 256)
  rw [Int.fmod_eq_emod_of_nonneg _ (by decide)] at h ⊢
  cases hx
  show ext true 256 u = _
  unfold ext
  rw [show (256 / 2 : Int) = 128 from rfl, decide_eq_true h]; rfl
theorem wk_s8f (h : decide ((1 * 2 ^ Int.toNat 8 : Int).fdiv 2 ≤ u.fmod (1 * 2 ^ Int.toNat 8)) = false) : Ok V (.one .sx8 (.k u)) (.const (.k (Builtin.bitAnd (Builtin.bitAnd (u.fmod (1 * 2 ^ Int.toNat 8)) 4294967295) 4294967295))) := by
  have h : ¬ (128 : Int) ≤ u.fmod 256 := of_decide_eq_false h
  refine ok_num (fun x hx => ?_) one_pos
  show x = wr (u.fmod 256)
  rw [Int.fmod_eq_emod_of_nonneg _ (by decide)] at h ⊢
  cases hx
  show ext true 256 u = _
  unfold ext
  rw [show (256 / 2 : Int) = 128 from rfl, decide_eq_false h]; rfl
theorem wk_s16t (h : decide ((1 * 2 ^ Int.toNat 16 : Int).fdiv 2 ≤ u.fmod (1 * 2 ^ Int.toNat 16)) = true) : Ok V (.one .sx16 (.k u)) (.const (.k (Builtin.bitAnd (Builtin.bitAnd (u.fmod (1 * 2 ^ Int.toNat 16) - 1 * 2 ^ Int.toNat 16) 4294967295) 4294967295))) := by
  have h : (32768 : Int) ≤ u.fmod 65536 := of_dec h
  refine ok_num (fun x hx => ?_) one_pos
  show x = wr (u.fmod 65536 - 65536)
  rw [Int.fmod_eq_emod_of_nonneg _ (by decide)] at h ⊢
  cases hx
  show ext true 65536 u = _
  unfold ext
  rw [show (65536 / 2 : Int) = 32768 from rfl, decide_eq_true h]; rfl
theorem wk_s16f (h : decide ((1 * 2 ^ Int.toNat 16 : Int).fdiv 2 ≤ u.fmod (1 * 2 ^ Int.toNat 16)) = false) : Ok V (.one .sx16 (.k u)) (.const (.k (Builtin.bitAnd (Builtin.bitAnd (u.fmod (1 * 2 ^ Int.toNat 16)) 4294967295) 4294967295))) := by
  have h : ¬ (32768 : Int) ≤ u.fmod 65536 := of_decide_eq_false h
  refine ok_num (fun x hx => ?_) one_pos
  show x = wr (u.fmod 65536)
  rw [Int.fmod_eq_emod_of_nonneg _ (by decide)] at h ⊢
  cases hx
  show ext true 65536 u = _
  unfold ext
  rw [show (65536 / 2 : Int) = 32768 from rfl, decide_eq_false h]; rfl
theorem wk_z8 : Ok V (.one .zx8 (.k u)) (.const (.k (Builtin.bitAnd (Builtin.bitAnd (u.fmod (1 * 2 ^ Int.toNat 8)) 4294967295) 4294967295))) := by
  refine ok_num (fun x hx => ?_) one_pos
  show x = wr (u.fmod 256)
  rw [Int.fmod_eq_emod_of_nonneg _ (by decide)]
  cases hx
  rfl
theorem wk_z16 : Ok V (.one .zx16 (.k u)) (.const (.k (Builtin.bitAnd (Builtin.bitAnd (u.fmod (1 * 2 ^ Int.toNat 16)) 4294967295) 4294967295))) := by
  refine ok_num (fun x hx => ?_) one_pos
  show x = wr (u.fmod 65536)
  rw [Int.fmod_eq_emod_of_nonneg _ (by decide)]
  cases hx
  rfl
theorem ok_swap (ho : o = .add ∨ o = .mul ∨ o = .and ∨ o = .or ∨ o = .xor ∨ o = .eq ∨ o = .ne) (ha : Opd.wf V.length (.k u)) (hb : j < V.length) : Ok V (.two o (.k u) (.r j)) (.two o (.r j) (.k u)) := by
  refine ⟨⟨hb, ha⟩, (fun _ _ h => by cases h), fun x h => ?_, ?_⟩
  · simp only [Shp.sem] at h ⊢
    rw [← h]
    rcases ho with rfl | rfl | rfl | rfl | rfl | rfl | rfl
    · simp only [sem2]; rw [Int.add_comm]
    · simp only [sem2]; rw [Int.mul_comm]
    · simp only [sem2]; rw [bitAnd_comm]
    · simp only [sem2]; rw [bitAnd_comm, Int.add_comm]
    · exact xor_comm_sem _ _
    · exact en_iff (.inl rfl) ⟨Eq.symm, Eq.symm⟩
    · exact en_iff (.inr rfl) ⟨Eq.symm, Eq.symm⟩
  · rcases ho with rfl | rfl | rfl | rfl | rfl | rfl | rfl <;> simp only [Shp.phi, phi2] <;> (first | lia | omega)
end
end Mine.Internal

end
section
open PySem PySem.W PyProof.Rows
set_option Elab.async false
set_option tactic.hygienic false
set_option backward.match.sparseCases false
set_option bootstrap.genMatcherCode false
namespace Mine.Internal
inductive SpP (V : List Int) (F : Fcs) (a : Opd) (σ : Sg) : D → Sg → Prop
  | mk {lo hi : Int} : lo ≤ sg (a.v V) → sg (a.v V) ≤ hi → (∀ v, a = .k v → lo = sg v ∧ hi = sg v) → (∀ i o x y, a = .r i → look i F = some (.two o x y) → isCmp o = true → lo = 0 ∧ hi = 1) → SpP V F a σ (.tup [.int lo, .int hi]) σ
theorem wm_facL {V : List Int} {F : Fcs} {i : Nat} {P : D → Prop} {Q : Prop} (hc : Con V F)
    (two : ∀ o x y, look i F = some (.two o x y) → P (Shp.two o x y).d) (one : ∀ o x, look i F = some (.one o x) → P (Shp.one o x).d)
    (l1 : ∀ s, look i F = some (.load 1 s) → P (Shp.load 1 s).d) (l2 : ∀ s, look i F = some (.load 2 s) → P (Shp.load 2 s).d) (l4 : ∀ s, look i F = some (.load 4 s) → P (Shp.load 4 s).d)
    (nx : ∀ off, look i F = some (.name false off) → P (Shp.name false off).d) (ny : ∀ off, look i F = some (.name true off) → P (Shp.name true off).d)
    (no : look i F = none → Q) : WM (lki (Int.ofNat i) F.d) P Q := by
  refine wm_fac hc two one (fun w s hs => ?_) nx ny no
  rcases hc.wf _ _ hs with rfl | rfl | rfl
  · exact l1 _ hs
  · exact l2 _ hs
  · exact l4 _ hs
inductive InP (V : List Int) (i : Nat) (bits : Int) (σ : Sg) : D → Sg → Prop
  | none : InP V i bits σ .none σ
  | some {x : Opd} : x.wf i → 3 ≤ i → (x.v V) % 2 ^ bits.toNat = (V.getD i 0) % 2 ^ bits.toNat → InP V i bits σ x.d σ
section
variable {V : List Int} {F : Fcs} {i j : Nat} {o o' : O2} {o1 : O1} {a b p q z : Opd} {u v c lo hi lo' hi' n x y x' y' : Int} {σ : Sg} {w : Int} {s : Bool}
theorem sp_k (hx : x = sg v) : SpP V F (.k v) σ (.tup [.int x, .int x]) σ := by
  subst hx
  exact .mk (Int.le_refl _) (Int.le_refl _) (fun v' e => by cases e; exact ⟨rfl, rfl⟩) (fun _ _ _ _ e => by cases e)
theorem sp_r (h1 : lo ≤ sg (V.getD i 0)) (h2 : sg (V.getD i 0) ≤ hi) (h3 : ∀ o x y, look i F = some (.two o x y) → isCmp o = true → lo = 0 ∧ hi = 1) : SpP V F (.r i) σ (.tup [.int lo, .int hi]) σ :=
  .mk h1 h2 (fun _ e => by cases e) (fun _ o x y e => by cases e; exact h3 o x y)
theorem sp_no {P : Prop} {F : Fcs} {t : Shp} (hf : look i F = some t) (hn : ∀ o x y, t ≠ .two o x y) : ∀ o x y, look i F = some (.two o x y) → isCmp o = true → P := fun o x y e _ => by
  rw [hf] at e
  cases e
  exact (hn _ _ _ rfl).elim
theorem sp_no2 {P : Prop} {F : Fcs} (hf : look i F = some (.two o p q)) (hn : isCmp o = false) : ∀ o x y, look i F = some (.two o x y) → isCmp o = true → P := fun o x y e h => by
  rw [hf] at e
  cases e
  rw [hn] at h; cases h
theorem sp_whole (hi' : i < V.length) (hc : Con V F) (h3 : ∀ o x y, look i F = some (.two o x y) → isCmp o = true → (-2147483648 : Int) = 0 ∧ (2147483647 : Int) = 1) : SpP V F (.r i) σ (.tup [.int (-2147483648), .int 2147483647]) σ :=
  sp_r (sg_lo (hc.w i hi')) (sg_hi (hc.w i hi')) h3
theorem sp_none (hi' : i < V.length) (hc : Con V F) (hf : look i F = none) : SpP V F (.r i) σ (.tup [.int (-2147483648), .int 2147483647]) σ := sp_whole hi' hc fun o x y e => by rw [hf] at e; cases e
theorem sp_cmp (ho : isCmp o = true) (hc : Con V F) (hf : look i F = some (.two o p q)) (hlo : lo = 0) (hhi : hi = 1) : SpP V F (.r i) σ (.tup [.int lo, .int hi]) σ := by
  subst hlo hhi
  obtain ⟨h3, hi, hp, hq, hp', hq', hs⟩ := hc.two hf
  obtain ⟨t, ht⟩ := cmp_bit (x := p.v V) (y := q.v V) ho
  rw [ht] at hs
  injection hs with hs
  refine sp_r ?_ ?_ (fun _ _ _ _ _ => ⟨rfl, rfl⟩) <;> rw [← hs] <;> cases t <;> decide
theorem sg_ext_s {n x : Int} (h0 : 0 < n) (h1 : n ≤ 65536) (hh : n / 2 + n / 2 = n) : -(n / 2) ≤ sg (ext true n x) ∧ sg (ext true n x) ≤ n / 2 - 1 := by
  have a := Int.emod_nonneg x (Int.ne_of_gt h0)
  have b := Int.emod_lt_of_pos x h0
  unfold ext
  by_cases c : n / 2 ≤ x % n
  · rw [if_pos (by rw [Bool.true_and]; exact decide_eq_true c), sg_wr (by (first | lia | omega))]; (first | lia | omega)
  · rw [if_neg (by rw [Bool.true_and, decide_eq_true_eq]; exact c), sg_wr (by (first | lia | omega))]; (first | lia | omega)
theorem sg_ext_z {n x : Int} (h0 : 0 < n) (h1 : n ≤ 65536) : 0 ≤ sg (ext false n x) ∧ sg (ext false n x) ≤ n - 1 := by
  have a := Int.emod_nonneg x (Int.ne_of_gt h0)
  have b := Int.emod_lt_of_pos x h0
  show 0 ≤ sg (wr (x % n)) ∧ sg (wr (x % n)) ≤ _
  rw [sg_wr (by (first | lia | omega))]; (first | lia | omega)
theorem sp_8s (hc : Con V F) (hf : look i F = some (.one .sx8 z)) : SpP V F (.r i) σ (.tup [.int (-128), .int 127]) σ := by
  obtain ⟨h3, hi, hz, hz', hs⟩ := hc.one hf
  exact sp_r (by rw [← hs]; exact (sg_ext_s (by decide) (by decide) rfl).1) (by rw [← hs]; exact (sg_ext_s (by decide) (by decide) rfl).2) (sp_no hf fun _ _ _ e => by cases e)
theorem sp_16s (hc : Con V F) (hf : look i F = some (.one .sx16 z)) : SpP V F (.r i) σ (.tup [.int (-32768), .int 32767]) σ := by
  obtain ⟨h3, hi, hz, hz', hs⟩ := hc.one hf
  exact sp_r (by rw [← hs]; exact (sg_ext_s (by decide) (by decide) rfl).1) (by rw [← hs]; exact (sg_ext_s (by decide) (by decide) rfl).2) (sp_no hf fun _ _ _ e => by cases e)
theorem sp_8z (hc : Con V F) (hf : look i F = some (.one .zx8 z)) (hlo : lo = 0) (hhi : hi = 255) : SpP V F (.r i) σ (.tup [.int lo, .int hi]) σ := by
  subst hlo hhi
  obtain ⟨h3, hi, hz, hz', hs⟩ := hc.one hf
  exact sp_r (by rw [← hs]; exact (sg_ext_z (by decide) (by decide)).1) (by rw [← hs]; exact (sg_ext_z (by decide) (by decide)).2) (sp_no hf fun _ _ _ e => by cases e)
theorem sp_16z (hc : Con V F) (hf : look i F = some (.one .zx16 z)) (hlo : lo = 0) (hhi : hi = 65535) : SpP V F (.r i) σ (.tup [.int lo, .int hi]) σ := by
  subst hlo hhi
  obtain ⟨h3, hi, hz, hz', hs⟩ := hc.one hf
  exact sp_r (by rw [← hs]; exact (sg_ext_z (by decide) (by decide)).1) (by rw [← hs]; exact (sg_ext_z (by decide) (by decide)).2) (sp_no hf fun _ _ _ e => by cases e)
theorem sp_load (hc : Con V F) (hf : look i F = some (.load w s)) (h : w = 1 ∧ s = true ∧ lo = -128 ∧ hi = 127 ∨ w = 1 ∧ s = false ∧ lo = 0 ∧ hi = 255 ∨ w = 2 ∧ s = true ∧ lo = -32768 ∧ hi = 32767 ∨ w = 2 ∧ s = false ∧ lo = 0 ∧ hi = 65535) : SpP V F (.r i) σ (.tup [.int lo, .int hi]) σ := by
  have hw := hc.w i (hc.idx _ _ hf).2
  obtain ⟨g1, g2⟩ := (hc.sem _ _ hf).1 _ _ rfl
  have key : ∀ m, V.getD i 0 ≤ m → m < 2147483648 → 0 ≤ sg (V.getD i 0) ∧ sg (V.getD i 0) ≤ m := fun m h1 h2 => by
    have : sg (V.getD i 0) = V.getD i 0 := by unfold sg; rw [if_neg (by (first | lia | omega))]
    rw [this]; exact ⟨hw.1, h1⟩
  have nl : ∀ o x y, look i F = some (.two o x y) → isCmp o = true → lo = 0 ∧ hi = 1 := sp_no hf fun _ _ _ e => by cases e
  rcases h with ⟨rfl, rfl, rfl, rfl⟩ | ⟨rfl, rfl, rfl, rfl⟩ | ⟨rfl, rfl, rfl, rfl⟩ | ⟨rfl, rfl, rfl, rfl⟩
  · exact sp_r ((g1 rfl).1 rfl).1 ((g1 rfl).1 rfl).2 nl
  · exact sp_r (key 255 ((g1 rfl).2 rfl) (by decide)).1 (key 255 ((g1 rfl).2 rfl) (by decide)).2 nl
  · exact sp_r ((g2 rfl).1 rfl).1 ((g2 rfl).1 rfl).2 nl
  · exact sp_r (key 65535 ((g2 rfl).2 rfl) (by decide)).1 (key 65535 ((g2 rfl).2 rfl) (by decide)).2 nl
end
end Mine.Internal

end
section
open PySem PySem.W PyProof.Rows
set_option Elab.async false
set_option tactic.hygienic false
set_option backward.match.sparseCases false
set_option bootstrap.genMatcherCode false
namespace Mine.Internal
section
variable {V : List Int} {F : Fcs} {i j : Nat} {o o' : O2} {o1 : O1} {a b p q z : Opd} {u v c lo hi lo' hi' n x y x' y' : Int} {σ : Sg} {w : Int} {s : Bool}
theorem sg_small (h0 : 0 ≤ x) (h : x < 2147483648) : sg x = x := by unfold sg; rw [if_neg (by (first | lia | omega))]
theorem sp_nc (hf : look i F = some (.two o p q)) (h : (lk o.nm [((⟨#[108, 116]⟩ : Str), D.int 1), (⟨#[108, 116, 117]⟩, D.int 1), (⟨#[101, 113]⟩, D.int 1), (⟨#[110, 101]⟩, D.int 1)]).isSome = false) {P : Prop} : ∀ o x y, look i F = some (.two o x y) → isCmp o = true → P := fun o x y e hcp => by
  rw [hf] at e
  cases e
  cases o <;> first | exact absurd hcp (by decide) | exact absurd h (by decide +kernel)
noncomputable def isTwo : Shp → Bool
  | .two .. => true
  | _ => false
theorem sp_nt {P : Prop} {t : Shp} (hf : look i F = some t) (hn : isTwo t = false) : ∀ o x y, look i F = some (.two o x y) → isCmp o = true → P := fun o x y e _ => by
  rw [hf] at e
  cases e
  cases hn
theorem sp_and (hc : Con V F) (hf : look i F = some (.two .and p (.k u))) (hlo : lo = 0) (h : decide (u < 2147483648) = true) : SpP V F (.r i) σ (.tup [.int lo, .int u]) σ := by
  subst hlo
  have h : u < 2147483648 := of_dec h
  obtain ⟨h3, hi, hp, hu, hp', hu', hs⟩ := hc.two hf
  have hu : 0 ≤ u ∧ u < 4294967296 := hu
  simp only [sem2, v_k, Option.some.injEq] at hs
  have hP := Opd.W hc hp'
  have hle : 0 ≤ V.getD i 0 ∧ V.getD i 0 ≤ u := by
    rw [← hs]
    obtain ⟨m, hm, _⟩ := exNat hP
    obtain ⟨k, rfl, _⟩ := exNat hu
    rw [hm, ofNat_and]
    have : m &&& k ≤ k := Nat.and_le_right
    (first | lia | omega)
  have e := sg_small hle.1 (by (first | lia | omega))
  exact sp_r (by rw [e]; exact hle.1) (by rw [e]; exact hle.2) (sp_no2 hf rfl)
theorem sp_shr (hc : Con V F) (hf : look i F = some (.two .shr p (.k u))) (hlo : lo = 0) (h1 : decide (Int.ofNat 0 < u) = true) (h2 : decide (u < Int.ofNat 32) = true) : SpP V F (.r i) σ (.tup [.int lo, .int (Int.ofNat 1 * 2 ^ (Int.ofNat 32 - u).toNat - Int.ofNat 1)]) σ := by
  subst hlo
  have h1 : 0 < u := of_dec h1
  have h2 : u < 32 := of_dec h2
  obtain ⟨h3, hi, hp, hu, hp', hu', hs⟩ := hc.two hf
  simp only [sem2, v_k, Option.some.injEq] at hs
  rw [mod32 (by (first | lia | omega)) (by (first | lia | omega))] at hs
  have hP := Opd.W hc hp'
  have d := div_pow_lo (n := u.toNat) hP.1
  rw [wr_small d.1 (by unfold W32 at hP; (first | lia | omega))] at hs
  have e32 : (2 : Int) ^ (32 - u).toNat * 2 ^ u.toNat = 4294967296 := by rw [pow_add', show (32 - u).toNat + u.toNat = 32 by (first | lia | omega)]; rfl
  have lt : Opd.v V p / 2 ^ u.toNat < 2 ^ (32 - u).toNat := (Int.ediv_lt_iff_lt_mul (pow_pos _)).mpr (by rw [e32]; exact hP.2)
  have half : Opd.v V p / 2 ^ u.toNat < 2147483648 := by
    refine (Int.ediv_lt_iff_lt_mul (pow_pos _)).mpr ?_
    have : (2 : Int) ^ 1 ≤ 2 ^ u.toNat := by
      have : (2 : Nat) ^ 1 ≤ 2 ^ u.toNat := Nat.pow_le_pow_right (by decide) (by (first | lia | omega))
      have e : ((2 ^ u.toNat : Nat) : Int) = (2 : Int) ^ u.toNat := by simp
      (first | lia | omega)
    unfold W32 at hP; (first | lia | omega)
  have e := sg_small (x := V.getD i 0) (by rw [← hs]; exact d.1) (by rw [← hs]; exact half)
  refine sp_r (by rw [e, ← hs]; exact d.1) ?_ (sp_no2 hf rfl)
  rw [e, ← hs]
  show _ ≤ 1 * 2 ^ (32 - u).toNat - 1
  (first | lia | omega)
theorem sp_sar (hc : Con V F) (hf : look i F = some (.two .sar p (.k u))) (h2 : decide (u < Int.ofNat 32) = true) : SpP V F (.r i) σ (.tup [.int (-Int.fdiv 2147483648 (2 ^ u.toNat)), .int (Int.fdiv 2147483648 (2 ^ u.toNat) - Int.ofNat 1)]) σ := by
  have h2 : u < 32 := of_dec h2
  obtain ⟨h3, hi, hp, hu, hp', hu', hs⟩ := hc.two hf
  have hu : 0 ≤ u ∧ u < 4294967296 := hu
  simp only [sem2, v_k, Option.some.injEq] at hs
  rw [mod32 (by (first | lia | omega)) (by (first | lia | omega))] at hs
  have hP := Opd.W hc hp'
  have l := sg_lo hP
  have g := sg_hi hP
  have rng := sdiv_rng (n := u.toNat) l g
  have e : sg (V.getD i 0) = sg (Opd.v V p) / 2 ^ u.toNat := by rw [← hs, sg_wr rng]
  have p0 := pow_pos u.toNat
  rw [Int.fdiv_eq_ediv_of_nonneg _ (Int.le_of_lt p0)]
  have e31 : (2147483648 : Int) / 2 ^ u.toNat * 2 ^ u.toNat = 2147483648 := by
    have : (2147483648 : Int) = 2 ^ (31 - u.toNat) * 2 ^ u.toNat := by rw [pow_add', show 31 - u.toNat + u.toNat = 31 by (first | lia | omega)]; rfl
    rw [this, Int.mul_ediv_cancel _ (by (first | lia | omega))]
  refine sp_r ?_ ?_ (sp_no2 hf rfl)
  · rw [e]
    refine (Int.le_ediv_iff_mul_le p0).mpr ?_
    rw [Int.neg_mul, e31]; exact l
  · rw [e]
    have : sg (Opd.v V p) / 2 ^ u.toNat < 2147483648 / 2 ^ u.toNat := (Int.ediv_lt_iff_lt_mul p0).mpr (by rw [e31]; (first | lia | omega))
    show _ ≤ _ - 1
    (first | lia | omega)
theorem sp_remu (hc : Con V F) (hf : look i F = some (.two .remu p (.k u))) (hlo : lo = 0) (h1 : decide (Int.ofNat 0 < u) = true) (h2 : decide (u ≤ 2147483648) = true) : SpP V F (.r i) σ (.tup [.int lo, .int (u - Int.ofNat 1)]) σ := by
  subst hlo
  have h1 : 0 < u := of_dec h1
  have h2 : u ≤ 2147483648 := of_dec h2
  obtain ⟨h3, hi, hp, hu, hp', hu', hs⟩ := hc.two hf
  simp only [v_k] at hs
  simp only [sem2] at hs
  have hP := Opd.W hc hp'
  rw [if_neg (by (first | lia | omega)), Option.some.injEq, shR_u hP.1 h1 hP.2] at hs
  have l1 := Int.emod_nonneg (Opd.v V p) (by (first | lia | omega) : u ≠ 0)
  have l2 := Int.emod_lt_of_pos (Opd.v V p) h1
  rw [hs] at l1 l2
  have e := sg_small l1 (by (first | lia | omega))
  exact sp_r (by rw [e]; exact l1) (by rw [e]; show _ ≤ u - 1; (first | lia | omega)) (sp_no2 hf rfl)
theorem sp_divu (hc : Con V F) (hf : look i F = some (.two .divu p (.k u))) (hlo : lo = 0) (h1 : decide (Int.ofNat 1 < u) = true) : SpP V F (.r i) σ (.tup [.int lo, .int (Int.fdiv 4294967295 u)]) σ := by
  subst hlo
  have h1 : 1 < u := of_dec h1
  obtain ⟨h3, hi, hp, hu, hp', hu', hs⟩ := hc.two hf
  simp only [v_k] at hs
  simp only [sem2] at hs
  have hP := Opd.W hc hp'
  rw [if_neg (by (first | lia | omega)), Option.some.injEq, shQ_u hP.1 (by (first | lia | omega)) hP.2] at hs
  have l1 := Int.ediv_nonneg hP.1 (by (first | lia | omega) : 0 ≤ u)
  have l2 : Opd.v V p / u ≤ 4294967295 / u := Int.ediv_le_ediv (by (first | lia | omega)) (by unfold W32 at hP; (first | lia | omega))
  have l3 : (4294967295 : Int) / u ≤ 2147483647 := by
    have : (4294967295 : Int) / u < 2147483648 := (Int.ediv_lt_iff_lt_mul (by (first | lia | omega))).mpr (by (first | lia | omega))
    (first | lia | omega)
  rw [Int.fdiv_eq_ediv_of_nonneg _ (by (first | lia | omega))]
  rw [hs] at l1 l2
  have e := sg_small l1 (by (first | lia | omega))
  exact sp_r (by rw [e]; exact l1) (by rw [e]; exact l2) (sp_no2 hf rfl)
theorem in_and {n : Nat} (hc : Con V F) (hf : look i F = some (.two .and p (.k u))) (hn : n = 8 ∨ n = 16) (h : Builtin.bitAnd u (2 ^ n - 1) = 2 ^ n - 1) : (p.v V) % 2 ^ n = (V.getD i 0) % 2 ^ n := by
  obtain ⟨h3, hi, hp, hu, hp', hu', hs⟩ := hc.two hf
  simp only [sem2, v_k, Option.some.injEq] at hs
  have hP := Opd.W hc hp'
  have hU : W32 u := hu'
  have hm : W32 (2 ^ n - 1) := by rcases hn with rfl | rfl <;> (unfold W32; decide)
  rw [← hs, ← and_ones hP.1, ← and_ones (W_and hP hU).1, and_assoc' hP hU hm, h]
theorem in_and8 (hc : Con V F) (hf : look i F = some (.two .and a (.k u))) (h : decide (Builtin.bitAnd u (Int.ofNat 1 * 2 ^ Int.toNat 8 - Int.ofNat 1) = Int.ofNat 1 * 2 ^ Int.toNat 8 - Int.ofNat 1) = true) : InP V i 8 σ a.d σ :=
  .some (hc.two hf).2.2.1 (hc.two hf).1 (in_and (n := 8) hc hf (.inl rfl) (of_dec h))
theorem in_and16 (hc : Con V F) (hf : look i F = some (.two .and a (.k u))) (h : decide (Builtin.bitAnd u (Int.ofNat 1 * 2 ^ Int.toNat 16 - Int.ofNat 1) = Int.ofNat 1 * 2 ^ Int.toNat 16 - Int.ofNat 1) = true) : InP V i 16 σ a.d σ :=
  .some (hc.two hf).2.2.1 (hc.two hf).1 (in_and (n := 16) hc hf (.inr rfl) (of_dec h))
theorem ext_mod {s : Bool} {m n x : Int} (h1 : n ∣ m) (h2 : n ∣ 4294967296) : ext s m x % n = x % n := by
  unfold ext wr
  rw [Int.emod_emod_of_dvd _ h2]
  split
  · obtain ⟨k, rfl⟩ := h1
    rw [Int.sub_eq_add_neg, ← Int.mul_neg, Int.add_mul_emod_self_left]; exact Int.emod_emod_of_dvd _ ⟨k, rfl⟩
  · exact Int.emod_emod_of_dvd _ h1
theorem in_ext8 (hc : Con V F) (hf : look i F = some (.one o1 a)) (ho : o1 = .sx8 ∨ o1 = .zx8 ∨ o1 = .sx16 ∨ o1 = .zx16) : InP V i 8 σ a.d σ := by
  obtain ⟨h3, hi, hz, hz', hs⟩ := hc.one hf
  refine .some hz h3 ?_
  rw [← hs]
  show Opd.v V a % 256 = _ % 256
  rcases ho with rfl | rfl | rfl | rfl
  · exact (ext_mod (s := true) ⟨1, rfl⟩ ⟨16777216, rfl⟩).symm
  · exact (ext_mod (s := false) ⟨1, rfl⟩ ⟨16777216, rfl⟩).symm
  · exact (ext_mod (s := true) ⟨256, rfl⟩ ⟨16777216, rfl⟩).symm
  · exact (ext_mod (s := false) ⟨256, rfl⟩ ⟨16777216, rfl⟩).symm
theorem in_ext16 (hc : Con V F) (hf : look i F = some (.one o1 a)) (ho : o1 = .sx16 ∨ o1 = .zx16) : InP V i 16 σ a.d σ := by
  obtain ⟨h3, hi, hz, hz', hs⟩ := hc.one hf
  refine .some hz h3 ?_
  rw [← hs]
  show Opd.v V a % 65536 = _ % 65536
  rcases ho with rfl | rfl
  · exact (ext_mod (s := true) ⟨1, rfl⟩ ⟨65536, rfl⟩).symm
  · exact (ext_mod (s := false) ⟨1, rfl⟩ ⟨65536, rfl⟩).symm
end
end Mine.Internal

end
section
open PySem PySem.W PyProof.Rows
set_option Elab.async false
set_option tactic.hygienic false
set_option backward.match.sparseCases false
set_option bootstrap.genMatcherCode false
namespace Mine.Internal
noncomputable def semD : Option Int → D
  | none => .lst []
  | some z => .lst [.int z]
inductive LP (z : Option Int) (σ : Sg) : D → Sg → Prop
  | mk {d : D} : d = semD z → LP z σ d σ
end Mine.Internal
namespace Mine.Internal
section
variable {x y X Y z : Int} {σ : Sg}
theorem fq1 (hY : Y = y - 4294967296 ∨ Y = y) (hy : W32 y) (h : decide (Y = Int.ofNat 0) = false) : (if Y < 0 then -Y else Y) ≠ 0 ∧ (if Y < 0 then -Y else Y).natAbs < 2 ^ 63 := by
  have h : Y ≠ 0 := of_decide_eq_false h
  have hy : 0 ≤ y ∧ y < 4294967296 := hy
  split <;> rcases hY with rfl | rfl <;> (first | lia | omega)
theorem fq2 (hX : X = x - 4294967296 ∨ X = x) (hY : Y = y - 4294967296 ∨ Y = y) (hx : W32 x) (hy : W32 y) : ((if X < 0 then -X else X).fdiv (if Y < 0 then -Y else Y)).natAbs < 2 ^ 63 ∧ (if Y < 0 then -Y else Y).natAbs < 2 ^ 63 := by
  have hy : 0 ≤ y ∧ y < 4294967296 := hy
  have hx : 0 ≤ x ∧ x < 4294967296 := hx
  have key : ∀ p q : Int, 0 ≤ p → p ≤ 4294967296 → 0 ≤ q → (p.fdiv q).natAbs < 2 ^ 63 := fun p q h1 h2 h3 => by
    rw [Int.fdiv_eq_ediv_of_nonneg _ h3]
    have a := Int.ediv_nonneg h1 h3
    have b := Int.ediv_le_self q h1
    (first | lia | omega)
  exact ⟨key _ _ (by split <;> (first | lia | omega)) (by split <;> rcases hX with rfl | rfl <;> (first | lia | omega)) (by split <;> (first | lia | omega)), by split <;> rcases hY with rfl | rfl <;> (first | lia | omega)⟩
theorem lone {e z : Int} (h : e = z) : D.lst [.int e] = semD (some z) := by rw [h]; rfl
theorem fm (x : Int) : x.fmod 4294967296 = wr x := Int.fmod_eq_emod_of_nonneg _ (by decide)
theorem fm8 (x : Int) : x.fmod (Int.ofNat 256) = x % 256 := Int.fmod_eq_emod_of_nonneg _ (by decide)
theorem fm16 (x : Int) : x.fmod (Int.ofNat 65536) = x % 65536 := Int.fmod_eq_emod_of_nonneg _ (by decide)
theorem lo_neg : ((Int.ofNat 0 - x).fmod 4294967296) = sem1 .neg x := fm _
theorem lo_not : 4294967296 - Int.ofNat 1 - x = sem1 .not x := by show (4294967296 : Int) - 1 - x = 4294967295 - x; (first | lia | omega)
theorem lo_8t (h : decide ((Int.ofNat 256).fdiv (Int.ofNat 2) ≤ x.fmod (Int.ofNat 256)) = true) : (x.fmod (Int.ofNat 256) - Int.ofNat 256).fmod 4294967296 = sem1 .sx8 x := by
  rw [fm8] at h ⊢
  rw [fm]
  have h : (128 : Int) ≤ x % 256 := of_dec h
  show _ = ext true 256 x
  unfold ext
  rw [show (256 / 2 : Int) = 128 from rfl, decide_eq_true h]; rfl
theorem lo_8f (h : decide ((Int.ofNat 256).fdiv (Int.ofNat 2) ≤ x.fmod (Int.ofNat 256)) = false) : (x.fmod (Int.ofNat 256)).fmod 4294967296 = sem1 .sx8 x := by
  rw [fm8] at h ⊢
  rw [fm]
  have h : ¬ (128 : Int) ≤ x % 256 := of_decide_eq_false h
  show _ = ext true 256 x
  unfold ext
  rw [show (256 / 2 : Int) = 128 from rfl, decide_eq_false h]; rfl
theorem lo_16t (h : decide ((Int.ofNat 65536).fdiv (Int.ofNat 2) ≤ x.fmod (Int.ofNat 65536)) = true) : (x.fmod (Int.ofNat 65536) - Int.ofNat 65536).fmod 4294967296 = sem1 .sx16 x := by
  rw [fm16] at h ⊢
  rw [fm]
  have h : (32768 : Int) ≤ x % 65536 := of_dec h
  show _ = ext true 65536 x
  unfold ext
  rw [show (65536 / 2 : Int) = 32768 from rfl, decide_eq_true h]; rfl
theorem lo_16f (h : decide ((Int.ofNat 65536).fdiv (Int.ofNat 2) ≤ x.fmod (Int.ofNat 65536)) = false) : (x.fmod (Int.ofNat 65536)).fmod 4294967296 = sem1 .sx16 x := by
  rw [fm16] at h ⊢
  rw [fm]
  have h : ¬ (32768 : Int) ≤ x % 65536 := of_decide_eq_false h
  show _ = ext true 65536 x
  unfold ext
  rw [show (65536 / 2 : Int) = 32768 from rfl, decide_eq_false h]; rfl
theorem lo_8z : (x.fmod (Int.ofNat 256)).fmod 4294967296 = sem1 .zx8 x := by rw [fm8, fm]; rfl
theorem lo_16z : (x.fmod (Int.ofNat 65536)).fmod 4294967296 = sem1 .zx16 x := by rw [fm16, fm]; rfl
end
end Mine.Internal

end
section
open PySem PySem.W PyProof.Rows
set_option Elab.async false
set_option tactic.hygienic false
set_option backward.match.sparseCases false
set_option bootstrap.genMatcherCode false
namespace Mine.Internal
section
variable {x y X Y z : Int} {σ : Sg}
theorem abs_if (z : Int) : (if z < 0 then -z else z) = (z.natAbs : Int) := by split <;> (first | lia | omega)
theorem q_t (h : (decide (X < Int.ofNat 0) == decide (Y < Int.ofNat 0)) = true) : ((if X < 0 then -X else X).fdiv (if Y < 0 then -Y else Y)).fmod 4294967296 = shQ X Y := by
  rw [fd_nat, fm]
  have h : (X < 0) = (Y < 0) := by
    have h : decide (X < 0) = decide (Y < 0) := by simpa using h
    exact propext (decide_eq_decide.mp h)
  unfold shQ; rw [if_pos h]
theorem q_f (h : (decide (X < Int.ofNat 0) == decide (Y < Int.ofNat 0)) = false) : (Int.ofNat 0 - (if X < 0 then -X else X).fdiv (if Y < 0 then -Y else Y)).fmod 4294967296 = shQ X Y := by
  rw [fd_nat, fm]
  have h : ¬ ((X < 0) = (Y < 0)) := fun e => by
    have : decide (X < 0) = decide (Y < 0) := by simp [e]
    have h : (decide (X < 0) == decide (Y < 0)) = false := h
    rw [this] at h; simp at h
  unfold shQ; rw [if_neg h]
  show wr (0 - _) = _
  rw [Int.zero_sub]
theorem r_in (X Y : Int) : (if X < 0 then -X else X) - (if X < 0 then -X else X).fdiv (if Y < 0 then -Y else Y) * (if Y < 0 then -Y else Y) = ((X.natAbs % Y.natAbs : Nat) : Int) := by
  rw [fd_nat, abs_if, abs_if, rem_n]
theorem r_t (h : decide (Int.ofNat 0 ≤ X) = true) : ((if X < 0 then -X else X) - (if X < 0 then -X else X).fdiv (if Y < 0 then -Y else Y) * (if Y < 0 then -Y else Y)).fmod 4294967296 = shR X Y := by
  have h : 0 ≤ X := of_dec h
  rw [r_in, fm]
  unfold shR; rw [if_pos h]
theorem r_f (h : decide (Int.ofNat 0 ≤ X) = false) : (Int.ofNat 0 - ((if X < 0 then -X else X) - (if X < 0 then -X else X).fdiv (if Y < 0 then -Y else Y) * (if Y < 0 then -Y else Y))).fmod 4294967296 = shR X Y := by
  have h : ¬ 0 ≤ X := of_decide_eq_false h
  rw [r_in, fm]
  unfold shR; rw [if_neg h]
  show wr (0 - _) = _
  rw [Int.zero_sub]
theorem du_0 (h : decide (y = Int.ofNat 0) = true) : D.lst [] = semD (sem2 .divu x y) := by
  have h : y = 0 := of_dec h
  simp [sem2, h, semD]
theorem ru_0 (h : decide (y = Int.ofNat 0) = true) : D.lst [] = semD (sem2 .remu x y) := by
  have h : y = 0 := of_dec h
  simp [sem2, h, semD]
theorem neg1_no {P : Prop} (hy : W32 y) (h : decide (y = -Int.ofNat 1) = true) : P := by
  have h : y = -1 := of_dec h
  unfold W32 at hy; (first | lia | omega)
theorem du_s (h0 : decide (y = Int.ofNat 0) = false) (e : z = shQ x y) : D.lst [.int z] = semD (sem2 .divu x y) := by
  have h0 : y ≠ 0 := of_decide_eq_false h0
  simp [sem2, h0, semD, e]
theorem ru_s (h0 : decide (y = Int.ofNat 0) = false) (e : z = shR x y) : D.lst [.int z] = semD (sem2 .remu x y) := by
  have h0 : y ≠ 0 := of_decide_eq_false h0
  simp [sem2, h0, semD, e]
theorem ds_0 (hY : Y = sg y) (h : decide (Y = Int.ofNat 0) = true) : D.lst [] = semD (sem2 .div x y) := by
  have h : Y = 0 := of_dec h
  subst hY
  simp [sem2, h, semD]
theorem rs_0 (hY : Y = sg y) (h : decide (Y = Int.ofNat 0) = true) : D.lst [] = semD (sem2 .rem x y) := by
  have h : Y = 0 := of_dec h
  subst hY
  simp [sem2, h, semD]
theorem ds_o (hX : X = sg x) (hY : Y = sg y) (h1 : decide (X = -Int.ofNat 2147483648) = true) (h2 : decide (Y = -Int.ofNat 1) = true) : D.lst [] = semD (sem2 .div x y) := by
  have h1 : X = -2147483648 := of_dec h1
  have h2 : Y = -1 := of_dec h2
  subst hX hY
  simp [sem2, h1, h2, semD]
theorem rs_o (hX : X = sg x) (hY : Y = sg y) (h1 : decide (X = -Int.ofNat 2147483648) = true) (h2 : decide (Y = -Int.ofNat 1) = true) : D.lst [] = semD (sem2 .rem x y) := by
  have h1 : X = -2147483648 := of_dec h1
  have h2 : Y = -1 := of_dec h2
  subst hX hY
  simp [sem2, h1, h2, semD]
theorem not_ov (h0 : decide (Y = Int.ofNat 0) = false) (h1 : decide (X = -Int.ofNat 2147483648) = false ∨ decide (Y = -Int.ofNat 1) = false) : ¬ (Y = 0 ∨ (X = -2147483648 ∧ Y = -1)) := by
  have h0 : Y ≠ 0 := of_decide_eq_false h0
  rcases h1 with h1 | h1
  · have h1 : X ≠ -2147483648 := of_decide_eq_false h1
    exact fun e => e.elim h0 fun e => h1 e.1
  · have h1 : Y ≠ -1 := of_decide_eq_false h1
    exact fun e => e.elim h0 fun e => h1 e.2
theorem ds_s (hX : X = sg x) (hY : Y = sg y) (h0 : decide (Y = Int.ofNat 0) = false) (h1 : decide (X = -Int.ofNat 2147483648) = false ∨ decide (Y = -Int.ofNat 1) = false) (e : z = shQ X Y) : D.lst [.int z] = semD (sem2 .div x y) := by
  have := not_ov h0 h1
  subst hX hY
  unfold sem2
  dsimp only
  rw [if_neg this, e]; rfl
theorem rs_s (hX : X = sg x) (hY : Y = sg y) (h0 : decide (Y = Int.ofNat 0) = false) (h1 : decide (X = -Int.ofNat 2147483648) = false ∨ decide (Y = -Int.ofNat 1) = false) (e : z = shR X Y) : D.lst [.int z] = semD (sem2 .rem x y) := by
  have := not_ov h0 h1
  subst hX hY
  unfold sem2
  dsimp only
  rw [if_neg this, e]; rfl
end
end Mine.Internal
namespace Mine.Internal
theorem md32 {y : Int} : 0 ≤ y.fmod (Int.ofNat 32) ∧ y.fmod (Int.ofNat 32) ≤ 1000 := by
  have e : y.fmod (Int.ofNat 32) = y % 32 := Int.fmod_eq_emod_of_nonneg _ (by decide)
  rw [e]; (first | lia | omega)
theorem md32' {y : Int} : (y.fmod (Int.ofNat 32)).toNat < 32 ∧ (y.fmod (Int.ofNat 32)).toNat = (y % 32).toNat := by
  have e : y.fmod (Int.ofNat 32) = y % 32 := Int.fmod_eq_emod_of_nonneg _ (by decide)
  rw [e]; (first | lia | omega)
theorem two_lt {i : Nat} (h : i < 32) : ((2 : Int) ^ i).natAbs < 2 ^ 63 := by
  have : (2 : Nat) ^ i ≤ 2 ^ 31 := Nat.pow_le_pow_right (by decide) (by (first | lia | omega))
  have e : ((2 ^ i : Nat) : Int) = (2 : Int) ^ i := by simp
  rw [← e, Int.natAbs_natCast]
  exact Nat.lt_of_le_of_lt this (by decide)
end Mine.Internal

end
section
open PySem PySem.W PyProof.Rows
set_option Elab.async false
set_option tactic.hygienic false
set_option backward.match.sparseCases false
set_option bootstrap.genMatcherCode false
namespace Mine.Internal
section
variable {x y X Y z t : Int} {σ : Sg}
theorem tw_mul : D.lst [.int ((x * y).fmod 4294967296)] = semD (sem2 .mul x y) := lone (fm _)
theorem tw_add : D.lst [.int ((x + y).fmod 4294967296)] = semD (sem2 .add x y) := lone (fm _)
theorem tw_sub : D.lst [.int ((x - y).fmod 4294967296)] = semD (sem2 .sub x y) := lone (fm _)
theorem tw_shl (ht : t = 2 ^ (y % 32).toNat) : D.lst [.int ((x * t).fmod 4294967296)] = semD (sem2 .shl x y) := by subst ht; exact lone (fm _)
theorem tw_shr (ht : t = 2 ^ (y % 32).toNat) : D.lst [.int ((x.fdiv t).fmod 4294967296)] = semD (sem2 .shr x y) := by
  subst ht
  rw [Int.fdiv_eq_ediv_of_nonneg _ (Int.le_of_lt (pow_pos _))]; exact lone (fm _)
theorem tw_sar (hX : X = sg x) (ht : t = 2 ^ (y % 32).toNat) : D.lst [.int ((X.fdiv t).fmod 4294967296)] = semD (sem2 .sar x y) := by
  subst ht hX
  rw [Int.fdiv_eq_ediv_of_nonneg _ (Int.le_of_lt (pow_pos _))]; exact lone (fm _)
theorem tw_and : D.lst [.int (Builtin.bitAnd x y)] = semD (sem2 .and x y) := rfl
theorem tw_or : D.lst [.int (x + y - Builtin.bitAnd x y)] = semD (sem2 .or x y) := rfl
theorem tw_xor : D.lst [.int (x + y - 2 * Builtin.bitAnd x y)] = semD (sem2 .xor x y) := rfl
theorem tw_lt (hX : X = sg x) (hY : Y = sg y) : D.lst [.int (if decide (X < Y) = true then 1 else 0)] = semD (sem2 .lt x y) := by subst hX hY; rfl
theorem tw_ltu : D.lst [.int (if decide (x < y) = true then 1 else 0)] = semD (sem2 .ltu x y) := rfl
theorem tw_eq : D.lst [.int (if decide (x = y) = true then 1 else 0)] = semD (sem2 .eq x y) := rfl
theorem tw_ne : D.lst [.int (if (!decide (x = y)) = true then 1 else 0)] = semD (sem2 .ne x y) := rfl
theorem and_small (hx : W32 x) (hy : W32 y) : (Builtin.bitAnd x y).natAbs < 2 ^ 63 := by
  have := W_and hx hy
  unfold W32 at this
  (first | lia | omega)
end
end Mine.Internal

end
section
open PySem PySem.W PyProof.Rows
set_option Elab.async false
set_option tactic.hygienic false
set_option backward.match.sparseCases false
set_option bootstrap.genMatcherCode false
namespace Mine.Internal
structure InvS (σ : Sg) : Prop where
  sp : ∃ n : Nat, σ.spot = Int.ofNat n
  cells : ∀ c ∈ σ.cells, 0 ≤ c ∧ c < 2147483647
  x : 0 ≤ σ.x ∧ σ.x < 2147483647
inductive DrP (size : Int) : D → Sg → Prop
  | mk {v : Int} {σ : Sg} : 0 ≤ v → v < size → InvS σ → DrP size (.int v) σ
end Mine.Internal
namespace Mine.Internal
theorem fm_nn {c size : Int} (hs : 1 ≤ size ∧ size ≤ 65536) : 0 ≤ c.fmod size := by rw [Int.fmod_eq_emod_of_nonneg _ (by (first | lia | omega))]; exact Int.emod_nonneg _ (by (first | lia | omega))
theorem fm_lt {c size : Int} (hs : 1 ≤ size ∧ size ≤ 65536) : c.fmod size < size := by rw [Int.fmod_eq_emod_of_nonneg _ (by (first | lia | omega))]; exact Int.emod_lt_of_pos _ (by (first | lia | omega))
theorem fm_x {c : Int} : 0 ≤ c.fmod 2147483647 ∧ c.fmod 2147483647 < 2147483647 := by rw [Int.fmod_eq_emod_of_nonneg _ (by (first | lia | omega))]; (first | lia | omega)
end Mine.Internal

end
section
open PySem PySem.W PyProof.Rows
set_option Elab.async false
set_option tactic.hygienic false
set_option backward.match.sparseCases false
set_option bootstrap.genMatcherCode false
namespace Mine.Internal
inductive CeP : D → Sg → Prop
  | mk {v : Int} {σ : Sg} : W32 v → InvS σ → CeP (.int v) σ
inductive OpP (m : Nat) : D → Sg → Prop
  | mk {a : Opd} {d : D} {σ : Sg} : d = a.d → a.wf m → InvS σ → OpP m d σ
end Mine.Internal
namespace Mine.Internal
theorem idx_all {l : List D} {n : Nat} {K : D → Prop} (hl : n < l.length) (hw : ∀ d ∈ l, ∃ v, d = .int v ∧ W32 v) (h : ∀ v, W32 v → K (.int v)) : idx l (Int.ofNat n) K := by
  show (match l[n]? with | some d => K d | none => False)
  rw [List.getElem?_eq_getElem hl]
  obtain ⟨v, e, hv⟩ := hw _ (List.getElem_mem hl)
  dsimp only
  rw [e]
  exact h v hv
end Mine.Internal
namespace Mine.Internal
noncomputable def allW : List D → Bool
  | [] => true
  | .int v :: r => decide (0 ≤ v ∧ v < 4294967296) && allW r
  | _ => false
set_option tactic.hygienic true in
theorem allW_spec : ∀ {l : List D}, allW l = true → ∀ d ∈ l, ∃ v, d = .int v ∧ W32 v
  | [], _, _, h => nomatch h
  | e :: r, h, d, hd => by
    unfold allW at h
    split at h
    · rename_i q; cases q
    · rename_i v r' q
      cases q
      simp only [Bool.and_eq_true, decide_eq_true_eq] at h
      rcases List.mem_cons.mp hd with rfl | hd
      · exact ⟨v, rfl, h.1⟩
      · exact allW_spec h.2 d hd
    · cases h
end Mine.Internal
namespace Mine.Internal
theorem c_two {m n : Nat} (hm : m < (Int.ofNat 65536).toNat) (hn : n < (Int.ofNat 65536).toNat) : W32 (Int.ofNat m * Int.ofNat 65536 + Int.ofNat n) := by
  have hm : m < 65536 := hm
  have hn : n < 65536 := hn
  show 0 ≤ (m : Int) * 65536 + n ∧ (m : Int) * 65536 + n < 4294967296
  (first | lia | omega)
theorem c_one {m n : Nat} (hm : m < (Int.ofNat 65536).toNat) (hn : n < (Int.ofNat 65536).toNat) : W32 (Int.ofNat m * Int.ofNat 1 + Int.ofNat n) := by
  have hm : m < 65536 := hm
  have hn : n < 65536 := hn
  show 0 ≤ (m : Int) * 1 + n ∧ (m : Int) * 1 + n < 4294967296
  (first | lia | omega)
theorem o_r {m n : Nat} {σ : Sg} (h : decide (Int.ofNat m < Int.ofNat n) = true) (hi : InvS σ) : OpP n (Opd.d (.r m)) σ := .mk (a := .r m) rfl (Int.ofNat_lt.mp (of_dec h)) hi
theorem o_k {n : Nat} {v : Int} {σ : Sg} (hv : W32 v) (hi : InvS σ) : OpP n (Opd.d (.k v)) σ := .mk (a := .k v) rfl hv hi
end Mine.Internal

end
section
open PySem PySem.W PyProof.Rows
set_option Elab.async false
set_option tactic.hygienic false
set_option backward.match.sparseCases false
set_option bootstrap.genMatcherCode false
namespace Mine.Internal
theorem wr_W (x : Int) : W32 (wr x) := ⟨wr_lo x, wr_hi x⟩
theorem sem1_W {o : O1} {x : Int} (h : W32 x) : W32 (sem1 o x) := by
  cases o
  · exact wr_W _
  · exact ⟨by unfold W32 at h; show 0 ≤ 4294967295 - x; (first | lia | omega), by unfold W32 at h; show 4294967295 - x < 4294967296; (first | lia | omega)⟩
  all_goals exact wr_W _
theorem some_W {z y : Int} (h : some y = some z) (w : W32 y) : W32 z := by cases h; exact w
theorem b2i_W (b : Bool) : W32 (b2i b) := by cases b <;> exact ⟨by decide, by decide⟩
theorem sem2_W {o : O2} {x y z : Int} (hx : W32 x) (hy : W32 y) (h : sem2 o x y = some z) : W32 z := by
  have dv : ∀ {p : Prop} {_ : Decidable p} {u : Int}, (if p then none else some u) = some z → W32 u → W32 z := fun {p _ u} h w => by
    by_cases q : p
    · rw [if_pos q] at h; cases h
    · rw [if_neg q] at h; exact some_W h w
  cases o
  case div => exact dv h (wr_W _)
  case divu => exact dv h (wr_W _)
  case rem => exact dv h (wr_W _)
  case remu => exact dv h (wr_W _)
  case and => exact some_W h (W_and hx hy)
  case or => refine some_W h ?_; rw [← bitOr_and]; exact W_or hx hy
  case xor => refine some_W h ?_; rw [← bitXor_eq']; exact W_xor hx hy
  case lt => exact some_W h (b2i_W _)
  case ltu => exact some_W h (b2i_W _)
  case eq => exact some_W h (b2i_W _)
  case ne => exact some_W h (b2i_W _)
  all_goals exact some_W h (wr_W _)
noncomputable def AllV (V : List Int) : Prop := ∀ i, i < V.length → W32 (V.getD i 0)
theorem AllV.v {V : List Int} (h : AllV V) {a : Opd} (w : a.wf V.length) : W32 (a.v V) := by
  cases a with
  | k v => exact w
  | r i => exact h i w
theorem sem_W {V : List Int} {s : Shp} {z : Int} (hV : AllV V) (hw : s.wf V.length) (h : s.sem V = some z) : W32 z := by
  cases s with
  | two o a b => exact sem2_W (hV.v hw.1) (hV.v hw.2) h
  | one o a => exact some_W h (sem1_W (hV.v hw))
  | load w s => cases h
  | name y off => exact some_W h (wr_W _)
  | const a => exact some_W h (hV.v hw)
  | copy a => exact some_W h (hV.v hw)
theorem no_none3 {o : O2} {x : Int} (h1 : o ≠ .div) (h2 : o ≠ .rem) : sem2 o x 3 ≠ none := by
  cases o <;> first | exact absurd rfl h1 | exact absurd rfl h2 | (intro h; cases h)

inductive BtP (V : List Int) (s : Shp) : D → Prop
  | none : BtP V s .none
  | some {s' : Shp} : Ok V s s' → BtP V s s'.d
theorem BtP.of {V : List Int} {s : Shp} {σ σ' : Sg} {d : D} (h : RP V s σ d σ') : BtP V s d ∧ σ' = σ := by
  cases h with
  | none => exact ⟨.none, rfl⟩
  | some _ e h => subst e; exact ⟨.some h, rfl⟩
inductive TdP (V : List Int) (s : Shp) (σ : Sg) : D → Sg → Prop
  | mk {d : D} : d = semD (s.sem V) → TdP V s σ d σ
inductive LdP : D → Sg → Prop
  | mk {w v : Int} {s : Bool} {σ : Sg} : (w = 1 ∨ w = 2 ∨ w = 4) → W32 v → loadOk w s v → InvS σ → LdP (.lst [Shp.d (.load w s), .int v]) σ
structure Sok (V : List Int) (s : Shp) (v : Int) : Prop where
  wf : s.wf V.length
  kind : (∃ o a b, s = .two o a b) ∨ (∃ o a, s = .one o a) ∨ (∃ w g, s = .load w g) ∨ ∃ y off, s = .name y off
  ld : ∀ w g, s = .load w g → loadOk w g v
  sem : (∀ w g, s ≠ .load w g) → s.sem V = some v
  w : W32 v
inductive ShP (V : List Int) : D → Sg → Prop
  | mk {s : Shp} {v : Int} {d : D} {σ : Sg} : d = .lst [s.d, .int v] → Sok V s v → InvS σ → ShP V d σ

noncomputable def Shp.op : Shp → Str
  | .two o _ _ => o.nm
  | .one o _ => o.nm
  | .load _ _ => ⟨#[108, 111, 97, 100]⟩
  | .name _ _ => ⟨#[110, 97, 109, 101]⟩
  | .const _ => ⟨#[99, 111, 110, 115, 116]⟩
  | .copy _ => ⟨#[99, 111, 112, 121]⟩
noncomputable def Shp.args : Shp → List D
  | .two _ a b => [a.d, b.d]
  | .one _ a => [a.d]
  | .load _ _ => [Opd.d (.r 0)]
  | .name _ _ => []
  | .const a => [a.d]
  | .copy a => [a.d]
noncomputable def isOp : Shp → Bool
  | .two _ _ _ => true
  | .one _ _ => true
  | _ => false

theorem idx_val {V : List Int} {i : Nat} {K : D → Prop} (hi : i < V.length) (h : K (.int (V.getD i 0))) : idx (V.map D.int) (Int.ofNat i) K := by
  show (match (V.map D.int)[i]? with | some d => K d | none => False)
  rw [List.getElem?_map, List.getElem?_eq_getElem hi]
  rw [List.getD_eq_getElem?_getD, List.getElem?_eq_getElem hi] at h
  exact h
noncomputable def allK (K : D → Prop) : List D → Prop
  | [] => True
  | d :: r => K d ∧ allK K r
theorem idx_conj {K : D → Prop} : ∀ {l : List D} {n : Nat}, n < l.length → allK K l → idx l (Int.ofNat n) K
  | _ :: _, 0, _, h => h.1
  | _ :: l, n + 1, hl, h => idx_conj (l := l) (n := n) (Nat.lt_of_succ_lt_succ hl) h.2
noncomputable def isO2 : List D → Bool
  | [] => true
  | .str s :: r => (match o2of s with | some o => seqb s o.nm && (!seqb s (O2.nm .div) && (!seqb s (O2.nm .rem) && isO2 r)) | none => false)
  | _ => false
noncomputable def isO1 : List D → Bool
  | [] => true
  | .str s :: r => (match o1of s with | some o => seqb s o.nm && isO1 r | none => false)
  | _ => false
theorem isO2_spec : ∀ {l : List D}, isO2 l = true → ∀ d ∈ l, ∃ o : O2, d = .str o.nm ∧ o ≠ .div ∧ o ≠ .rem
  | .str s :: r, h, d, hd => by
    unfold isO2 at h
    cases e : o2of s with
    | none => rw [e] at h; cases h
    | some o =>
      rw [e] at h
      obtain ⟨h1, h⟩ := Bool.and_eq_true_iff.mp h
      obtain ⟨h2, h⟩ := Bool.and_eq_true_iff.mp h
      obtain ⟨h3, h⟩ := Bool.and_eq_true_iff.mp h
      have hs := seqb_iff.mp h1
      rcases List.mem_cons.mp hd with rfl | hd
      · refine ⟨o, congrArg D.str hs, fun q => ?_, fun q => ?_⟩
        · rw [hs, q, seqb_self] at h2; cases h2
        · rw [hs, q, seqb_self] at h3; cases h3
      · exact isO2_spec h d hd
  | .none :: _, h, _, _ => nomatch h
  | .bool _ :: _, h, _, _ => nomatch h
  | .int _ :: _, h, _, _ => nomatch h
  | .tup _ :: _, h, _, _ => nomatch h
  | .lst _ :: _, h, _, _ => nomatch h
  | .dct _ :: _, h, _, _ => nomatch h
  | .fac _ :: _, h, _, _ => nomatch h
  | .wel :: _, h, _, _ => nomatch h
  | .fn _ :: _, h, _, _ => nomatch h
  | .bi _ :: _, h, _, _ => nomatch h
theorem isO1_spec : ∀ {l : List D}, isO1 l = true → ∀ d ∈ l, ∃ o : O1, d = .str o.nm
  | .str s :: r, h, d, hd => by
    unfold isO1 at h
    cases e : o1of s with
    | none => rw [e] at h; cases h
    | some o =>
      rw [e] at h
      obtain ⟨h1, h⟩ := Bool.and_eq_true_iff.mp h
      rcases List.mem_cons.mp hd with rfl | hd
      · exact ⟨o, congrArg D.str (seqb_iff.mp h1)⟩
      · exact isO1_spec h d hd
  | .none :: _, h, _, _ => nomatch h
  | .bool _ :: _, h, _, _ => nomatch h
  | .int _ :: _, h, _, _ => nomatch h
  | .tup _ :: _, h, _, _ => nomatch h
  | .lst _ :: _, h, _, _ => nomatch h
  | .dct _ :: _, h, _, _ => nomatch h
  | .fac _ :: _, h, _, _ => nomatch h
  | .wel :: _, h, _, _ => nomatch h
  | .fn _ :: _, h, _, _ => nomatch h
  | .bi _ :: _, h, _, _ => nomatch h
theorem idx_mem {l : List D} {n : Nat} {K : D → Prop} (hl : n < l.length) (h : ∀ d ∈ l, K d) : idx l (Int.ofNat n) K := by
  show (match l[n]? with | some d => K d | none => False)
  rw [List.getElem?_eq_getElem hl]
  exact h _ (List.getElem_mem hl)
theorem idx_o2 {l : List D} {n : Nat} {K : D → Prop} (hl : n < l.length) (hw : isO2 l = true) (h : ∀ o : O2, o ≠ .div → o ≠ .rem → K (.str o.nm)) : idx l (Int.ofNat n) K :=
  idx_mem hl fun d hd => by obtain ⟨o, rfl, h1, h2⟩ := isO2_spec hw d hd; exact h o h1 h2
theorem idx_o1 {l : List D} {n : Nat} {K : D → Prop} (hl : n < l.length) (hw : isO1 l = true) (h : ∀ o : O1, K (.str o.nm)) : idx l (Int.ofNat n) K :=
  idx_mem hl fun d hd => by obtain ⟨o, rfl⟩ := isO1_spec hw d hd; exact h o
noncomputable def dTwos : List D := [.str ⟨#[97, 100, 100]⟩, .str ⟨#[115, 117, 98]⟩, .str ⟨#[109, 117, 108]⟩, .str ⟨#[100, 105, 118]⟩, .str ⟨#[100, 105, 118, 117]⟩, .str ⟨#[114, 101, 109]⟩, .str ⟨#[114, 101, 109, 117]⟩, .str ⟨#[97, 110, 100]⟩, .str ⟨#[111, 114]⟩, .str ⟨#[120, 111, 114]⟩, .str ⟨#[115, 104, 108]⟩, .str ⟨#[115, 104, 114]⟩, .str ⟨#[115, 97, 114]⟩, .str ⟨#[108, 116]⟩, .str ⟨#[108, 116, 117]⟩, .str ⟨#[101, 113]⟩, .str ⟨#[110, 101]⟩]
noncomputable def dOnes : List D := [.str ⟨#[110, 101, 103]⟩, .str ⟨#[110, 111, 116]⟩, .str ⟨#[115, 120, 56]⟩, .str ⟨#[115, 120, 49, 54]⟩, .str ⟨#[122, 120, 56]⟩, .str ⟨#[122, 120, 49, 54]⟩]
noncomputable def dCc : List D := [.str ⟨#[99, 111, 110, 115, 116]⟩, .str ⟨#[99, 111, 112, 121]⟩]
theorem in2_twos (o : O2) : anyEq (.str o.nm) dTwos = true := by cases o <;> rfl
theorem in1_twos (o : O1) : anyEq (.str o.nm) dTwos = false := by cases o <;> rfl
theorem in1_ones (o : O1) : anyEq (.str o.nm) dOnes = true := by cases o <;> rfl
theorem in2_cc (o : O2) : anyEq (.str o.nm) dCc = false := by cases o <;> rfl
theorem in1_cc (o : O1) : anyEq (.str o.nm) dCc = false := by cases o <;> rfl
end Mine.Internal

end
section
open PySem PySem.W PyProof.Rows PySem.Calls
set_option Elab.async false
set_option tactic.hygienic false
set_option maxRecDepth 100000
set_option linter.all false
set_option backward.match.sparseCases false
set_option bootstrap.genMatcherCode false
namespace Mine.Internal
noncomputable def stAt (i : Nat) : Option Stmt := PySem.Challenge.pw_nm0048_01.main.body[i]?
noncomputable def bodyAt (i : Nat) : List Stmt := match stAt i with
  | some (.FunctionDef _ _ b _ _ _ _ _ _ _) => b
  | _ => []
noncomputable def namesAt (i : Nat) : List (Str × NameKind) := match stAt i with
  | some (.FunctionDef _ _ _ _ _ _ sc _ _ _) => sc.names
  | _ => []
noncomputable def GL : GT := (.node (.node (.node (.node (.node (.node (.node .nil 1382990825293545552 ⟨#[84, 79, 80]⟩ (.int 2147483648) .nil) 1383006961506844787 ⟨#[97, 98, 115]⟩ (.bi .abs) .nil) 1383016891484602484 ⟨#[105, 110, 116]⟩ (.bi .int) (.node .nil 1383020615211221102 ⟨#[108, 101, 110]⟩ (.bi .len) .nil)) 1383023097720143981 ⟨#[110, 117, 109]⟩ (.fn 28) (.node (.node .nil 1383029303946772594 ⟨#[115, 116, 114]⟩ (.bi .str) .nil) 1540796994126141131522123 ⟨#[77, 65, 83, 75]⟩ (.int 4294967295) (.node .nil 1540839863659168952156276 ⟨#[108, 105, 115, 116]⟩ (.bi .list) .nil))) 1540850926759101053272164 ⟨#[116, 111, 108, 100]⟩ (.fn 130) (.node (.node (.node (.node .nil 1716628124191782664130284879940 ⟨#[82, 79, 85, 78, 68]⟩ (.int 4294967296) .nil) 1716628124200079972322541633619 ⟨#[82, 85, 76, 69, 83]⟩ (.dct [(⟨#[97, 100, 100]⟩, .fn 158), (⟨#[115, 117, 98]⟩, .fn 165), (⟨#[109, 117, 108]⟩, .fn 172), (⟨#[100, 105, 118]⟩, .fn 186), (⟨#[114, 101, 109]⟩, .fn 186), (⟨#[100, 105, 118, 117]⟩, .fn 179), (⟨#[114, 101, 109, 117]⟩, .fn 179), (⟨#[97, 110, 100]⟩, .fn 193), (⟨#[111, 114]⟩, .fn 200), (⟨#[120, 111, 114]⟩, .fn 207), (⟨#[115, 104, 108]⟩, .fn 214), (⟨#[115, 104, 114]⟩, .fn 214), (⟨#[115, 97, 114]⟩, .fn 214), (⟨#[108, 116]⟩, .fn 221), (⟨#[108, 116, 117]⟩, .fn 221), (⟨#[101, 113]⟩, .fn 235), (⟨#[110, 101]⟩, .fn 235), (⟨#[110, 101, 103]⟩, .fn 242), (⟨#[110, 111, 116]⟩, .fn 249), (⟨#[115, 120, 56]⟩, .fn 263), (⟨#[115, 120, 49, 54]⟩, .fn 263), (⟨#[122, 120, 56]⟩, .fn 263), (⟨#[122, 120, 49, 54]⟩, .fn 263)]) .nil) 1716629664883677306161413881939 ⟨#[83, 80, 65, 78, 83]⟩ (.dct [(⟨#[115, 120, 56]⟩, .tup [.int (-128), .int 127]), (⟨#[122, 120, 56]⟩, .tup [.int 0, .int 255]), (⟨#[115, 120, 49, 54]⟩, .tup [.int (-32768), .int 32767]), (⟨#[122, 120, 49, 54]⟩, .tup [.int 0, .int 65535])]) (.node .nil 1716635827634661352236055789637 ⟨#[87, 72, 79, 76, 69]⟩ (.tup [.int (-2147483648), .int 2147483647]) .nil)) 1716677426313051622706618237029 ⟨#[114, 97, 110, 103, 101]⟩ (.bi .range) (.node (.node .nil 1912517709190557977890945333823012947 ⟨#[83, 72, 73, 70, 84, 83]⟩ (.dct [(⟨#[115, 104, 108]⟩, .int 1), (⟨#[115, 104, 114]⟩, .int 1), (⟨#[115, 97, 114]⟩, .int 1)]) .nil) 1912524575199248503762454646958325843 ⟨#[87, 73, 68, 84, 72, 83]⟩ (.dct [(⟨#[115, 120, 56]⟩, .int 8), (⟨#[122, 120, 56]⟩, .int 8), (⟨#[115, 120, 49, 54]⟩, .int 16), (⟨#[122, 120, 49, 54]⟩, .int 16)]) (.node .nil 1912543456762049970724794766212792434 ⟨#[98, 101, 116, 116, 101, 114]⟩ (.fn 272) .nil)))) 1912572637298599544459497096426618980 ⟨#[115, 105, 103, 110, 101, 100]⟩ (.fn 46) (.node (.node (.node (.node (.node .nil 1912579503314993545016071754974822500 ⟨#[119, 111, 114, 107, 101, 100]⟩ (.fn 95) .nil) 2130791440457425889753216439448604574548068 ⟨#[100, 105, 118, 105, 100, 101, 100]⟩ (.fn 60) .nil) 2130812476600508114362754169398565907726437 ⟨#[111, 114, 95, 114, 117, 108, 101]⟩ (.fn 200) (.node .nil 2130820126072285330621305305500447100960883 ⟨#[115, 97, 109, 101, 95, 97, 115]⟩ (.fn 137) .nil)) 2130820126084300836970768621044667507867748 ⟨#[115, 104, 105, 102, 116, 101, 100]⟩ (.fn 67) (.node (.node .nil 2130820126098032838944940138157608609448038 ⟨#[115, 112, 97, 110, 95, 111, 102]⟩ (.fn 116) .nil) 2373870003454490989036429305290444014180696916051 ⟨#[67, 79, 77, 80, 65, 82, 69, 83]⟩ (.dct [(⟨#[108, 116]⟩, .int 1), (⟨#[108, 116, 117]⟩, .int 1), (⟨#[101, 113]⟩, .int 1), (⟨#[110, 101]⟩, .int 1)]) (.node .nil 2373929660315626996307046438869966550619103559781 ⟨#[95, 108, 97, 119, 95, 111, 110, 101]⟩ (.fn 414) .nil))) 2373929660315626996307046438869966556825341329519 ⟨#[95, 108, 97, 119, 95, 116, 119, 111]⟩ (.fn 407) (.node (.node (.node .nil 2373933921500733506040851423124044122603385520229 ⟨#[97, 100, 100, 95, 114, 117, 108, 101]⟩ (.fn 158) .nil) 2373933921519857258435164112453078733161063252069 ⟨#[97, 110, 100, 95, 114, 117, 108, 101]⟩ (.fn 193) (.node .nil 2373938182722175155622924410127897736073782296676 ⟨#[99, 111, 109, 112, 97, 114, 101, 100]⟩ (.fn 74) .nil)) 2373950966321479301599338230728264857096837595238 ⟨#[105, 110, 110, 101, 114, 95, 111, 102]⟩ (.fn 256) (.node (.node .nil 2373950966331041152048961600719441228893365862516 ⟨#[105, 115, 95, 97, 112, 97, 114, 116]⟩ (.fn 123) .nil) 2373959488735676937841917793957596411981544030309 ⟨#[109, 117, 108, 95, 114, 117, 108, 101]⟩ (.fn 172) (.node .nil 2373961619305281678678401928669102118080642547813 ⟨#[110, 101, 103, 95, 114, 117, 108, 101]⟩ (.fn 242) .nil))))) 2373961619324405453387237854985527698078550458469 ⟨#[110, 111, 116, 95, 114, 117, 108, 101]⟩ (.fn 249) (.node (.node (.node (.node (.node (.node .nil 2373972272336893440176260168996733632145580097637 ⟨#[115, 117, 98, 95, 114, 117, 108, 101]⟩ (.fn 165) .nil) 2373982925326432982453168029472428261310152310885 ⟨#[120, 111, 114, 95, 114, 117, 108, 101]⟩ (.fn 207) .nil) 2644757057288689864777349176701198592822660265520529479 ⟨#[67, 79, 77, 77, 85, 84, 73, 78, 71]⟩ (.dct [(⟨#[97, 100, 100]⟩, .int 1), (⟨#[109, 117, 108]⟩, .int 1), (⟨#[97, 110, 100]⟩, .int 1), (⟨#[111, 114]⟩, .int 1), (⟨#[120, 111, 114]⟩, .int 1), (⟨#[101, 113]⟩, .int 1), (⟨#[110, 101]⟩, .int 1)]) (.node .nil 2644759431003159370600945173954186868232779594009018451 ⟨#[68, 73, 86, 73, 83, 73, 79, 78, 83]⟩ (.dct [(⟨#[100, 105, 118]⟩, .int 1), (⟨#[100, 105, 118, 117]⟩, .int 1), (⟨#[114, 101, 109]⟩, .int 1), (⟨#[114, 101, 109, 117]⟩, .int 1)]) .nil)) 2644823521713563824109636122102296157048700807039156332 ⟨#[95, 108, 97, 119, 95, 99, 101, 108, 108]⟩ (.fn 379) (.node (.node .nil 2644823521713563824109636122102296158431603503798485111 ⟨#[95, 108, 97, 119, 95, 100, 114, 97, 119]⟩ (.fn 372) .nil) 2644823521713563824109636122102296173643350705194729587 ⟨#[95, 108, 97, 119, 95, 111, 110, 101, 115]⟩ (.lst [.str ⟨#[110, 101, 103]⟩, .str ⟨#[110, 111, 116]⟩, .str ⟨#[115, 120, 56]⟩, .str ⟨#[115, 120, 49, 54]⟩, .str ⟨#[122, 120, 56]⟩, .str ⟨#[122, 120, 49, 54]⟩]) (.node .nil 2644823521713563824109636122102296180557784749345341540 ⟨#[95, 108, 97, 119, 95, 116, 111, 108, 100]⟩ (.fn 419) .nil))) 2644823521713563824109636122102296180557794679313072243 ⟨#[95, 108, 97, 119, 95, 116, 119, 111, 115]⟩ (.lst [.str ⟨#[97, 100, 100]⟩, .str ⟨#[115, 117, 98]⟩, .str ⟨#[109, 117, 108]⟩, .str ⟨#[100, 105, 118]⟩, .str ⟨#[100, 105, 118, 117]⟩, .str ⟨#[114, 101, 109]⟩, .str ⟨#[114, 101, 109, 117]⟩, .str ⟨#[97, 110, 100]⟩, .str ⟨#[111, 114]⟩, .str ⟨#[120, 111, 114]⟩, .str ⟨#[115, 104, 108]⟩, .str ⟨#[115, 104, 114]⟩, .str ⟨#[115, 97, 114]⟩, .str ⟨#[108, 116]⟩, .str ⟨#[108, 116, 117]⟩, .str ⟨#[101, 113]⟩, .str ⟨#[110, 101]⟩]) (.node (.node (.node (.node .nil 2644837764081343601735101491958086830520068230362693733 ⟨#[101, 110, 117, 109, 101, 114, 97, 116, 101]⟩ (.bi .enum) .nil) 2644847259001008919991595021431678562949335412360151154 ⟨#[105, 115, 95, 110, 117, 109, 98, 101, 114]⟩ (.fn 144) .nil) 2644854380152939824886798517250996456096839888003661925 ⟨#[108, 101, 115, 115, 95, 114, 117, 108, 101]⟩ (.fn 221) (.node .nil 2946629623423342019206434919267633374581146110214159472066675 ⟨#[95, 108, 97, 119, 95, 98, 97, 115, 101, 115]⟩ (.fn 365) .nil)) 2946629623423342019206434919267633400772894490662763949457509 ⟨#[95, 108, 97, 119, 95, 115, 104, 97, 112, 101]⟩ (.fn 431) (.node (.node .nil 2946629623423342019206434919267633406935656537801323224760421 ⟨#[95, 108, 97, 119, 95, 119, 104, 111, 108, 101]⟩ (.int 4294967296) .nil) 2946645491023315064575543931153173569082595012735659450040421 ⟨#[101, 113, 117, 97, 108, 95, 114, 117, 108, 101]⟩ (.fn 235) (.node .nil 2946682515374195015544504333727966374929734262762610814091365 ⟨#[115, 104, 105, 102, 116, 95, 114, 117, 108, 101]⟩ (.fn 214) .nil)))) 2946693093768638309805723159873023932150366062726013225009253 ⟨#[119, 105, 100, 101, 110, 95, 114, 117, 108, 101]⟩ (.fn 263) (.node (.node (.node (.node (.node .nil 2946693093782880703152676445125756970921991569411472737828965 ⟨#[119, 111, 114, 107, 101, 100, 95, 111, 110, 101]⟩ (.fn 88) .nil) 2946693093782880703152676445125756970921991569417678975598703 ⟨#[119, 111, 114, 107, 101, 100, 95, 116, 119, 111]⟩ (.fn 81) .nil) 3282875423011426423702119620775101571386389299390875963655772766308 ⟨#[95, 108, 97, 119, 95, 108, 111, 97, 100, 101, 100]⟩ (.fn 426) (.node .nil 3282875423011426423702119620775101583401891026781273271740495364196 ⟨#[95, 108, 97, 119, 95, 115, 104, 97, 114, 101, 100]⟩ (.fn 400) .nil)) 3282875423011426423702119620775101583401892567480082366434450407524 ⟨#[95, 108, 97, 119, 95, 115, 105, 103, 110, 101, 100]⟩ (.fn 393) (.node (.node .nil 3282893101294967593224388400224924511397751176205825933283842850920 ⟨#[101, 113, 117, 97, 108, 95, 116, 114, 117, 116, 104]⟩ (.fn 228) .nil) 3282893101313479767477542870163310307001429270524601122974827741286 ⟨#[101, 120, 112, 111, 110, 101, 110, 116, 95, 111, 102]⟩ (.fn 53) (.node .nil 3282934350589731922307673154565011388954328252381123914509119324271 ⟨#[115, 112, 97, 110, 95, 111, 102, 95, 116, 119, 111]⟩ (.fn 109) .nil))) 3282946136084765202593916282301637019325523939875439712215294607474 ⟨#[119, 105, 116, 104, 95, 110, 117, 109, 98, 101, 114]⟩ (.fn 151) (.node (.node (.node .nil 3657490903282106315763615894940989965725193733014718514214189508857036915 ⟨#[95, 108, 97, 119, 95, 110, 117, 109, 98, 101, 114, 115]⟩ (.fn 356) .nil) 3657490903282106315763615894940989967637560389924724642306907651290562660 ⟨#[95, 108, 97, 119, 95, 111, 112, 101, 114, 97, 110, 100]⟩ (.fn 386) (.node .nil 3657556555204227411426046353578733968570684557916838715578481533986603108 ⟨#[115, 112, 97, 110, 95, 111, 102, 95, 108, 111, 97, 100]⟩ (.fn 102) .nil)) 4074872791122868256007497678804479721813165406598916327354881127501429266448485 ⟨#[100, 105, 118, 105, 115, 105, 111, 110, 95, 114, 117, 108, 101]⟩ (.fn 186) (.node (.node .nil 5635061531609483505514160576100917305270062758963469399712703006077510061338779949472004448977012 ⟨#[95, 108, 97, 119, 95, 115, 112, 97, 110, 115, 95, 114, 105, 103, 104, 116]⟩ (.fn 438) .nil) 6278089673104504887295392467760945125004883965157506811893012865255421516237475794413806140373261090932 ⟨#[95, 108, 97, 119, 95, 98, 101, 116, 116, 101, 114, 95, 114, 105, 103, 104, 116]⟩ (.fn 445) (.node .nil 10776564924645580745297085516469291836486701859498638312113290157823032483865637540882481495336809101478512118155724168275805573218405 ⟨#[117, 110, 115, 105, 103, 110, 101, 100, 95, 100, 105, 118, 105, 115, 105, 111, 110, 95, 114, 117, 108, 101]⟩ (.fn 179) .nil))))))

noncomputable def lkN {α : Type} (n : Nat) : List (Nat × α) → Option α
  | [] => none
  | (k, x) :: r => match Nat.beq n k with | true => some x | false => lkN n r
noncomputable def nb28 : PSigma fun b : List Stmt => bodyAt 3 = b := by
  refine ⟨?_, ?_⟩
  rotate_left
  conv => lhs; reduce
noncomputable def nn28 : PSigma fun b : List (Str × NameKind) => namesAt 3 = b := by
  refine ⟨?_, ?_⟩
  rotate_left
  conv => lhs; reduce
noncomputable def nb46 : PSigma fun b : List Stmt => bodyAt 14 = b := by
  refine ⟨?_, ?_⟩
  rotate_left
  conv => lhs; reduce
noncomputable def nn46 : PSigma fun b : List (Str × NameKind) => namesAt 14 = b := by
  refine ⟨?_, ?_⟩
  rotate_left
  conv => lhs; reduce
noncomputable def nb53 : PSigma fun b : List Stmt => bodyAt 15 = b := by
  refine ⟨?_, ?_⟩
  rotate_left
  conv => lhs; reduce
noncomputable def nn53 : PSigma fun b : List (Str × NameKind) => namesAt 15 = b := by
  refine ⟨?_, ?_⟩
  rotate_left
  conv => lhs; reduce
noncomputable def nb60 : PSigma fun b : List Stmt => bodyAt 16 = b := by
  refine ⟨?_, ?_⟩
  rotate_left
  conv => lhs; reduce
noncomputable def nn60 : PSigma fun b : List (Str × NameKind) => namesAt 16 = b := by
  refine ⟨?_, ?_⟩
  rotate_left
  conv => lhs; reduce
noncomputable def nb67 : PSigma fun b : List Stmt => bodyAt 17 = b := by
  refine ⟨?_, ?_⟩
  rotate_left
  conv => lhs; reduce
noncomputable def nn67 : PSigma fun b : List (Str × NameKind) => namesAt 17 = b := by
  refine ⟨?_, ?_⟩
  rotate_left
  conv => lhs; reduce
noncomputable def nb74 : PSigma fun b : List Stmt => bodyAt 18 = b := by
  refine ⟨?_, ?_⟩
  rotate_left
  conv => lhs; reduce
noncomputable def nn74 : PSigma fun b : List (Str × NameKind) => namesAt 18 = b := by
  refine ⟨?_, ?_⟩
  rotate_left
  conv => lhs; reduce
noncomputable def nb81 : PSigma fun b : List Stmt => bodyAt 19 = b := by
  refine ⟨?_, ?_⟩
  rotate_left
  conv => lhs; reduce
noncomputable def nn81 : PSigma fun b : List (Str × NameKind) => namesAt 19 = b := by
  refine ⟨?_, ?_⟩
  rotate_left
  conv => lhs; reduce
noncomputable def nb88 : PSigma fun b : List Stmt => bodyAt 20 = b := by
  refine ⟨?_, ?_⟩
  rotate_left
  conv => lhs; reduce
noncomputable def nn88 : PSigma fun b : List (Str × NameKind) => namesAt 20 = b := by
  refine ⟨?_, ?_⟩
  rotate_left
  conv => lhs; reduce
noncomputable def nb95 : PSigma fun b : List Stmt => bodyAt 21 = b := by
  refine ⟨?_, ?_⟩
  rotate_left
  conv => lhs; reduce
noncomputable def nn95 : PSigma fun b : List (Str × NameKind) => namesAt 21 = b := by
  refine ⟨?_, ?_⟩
  rotate_left
  conv => lhs; reduce
noncomputable def nb102 : PSigma fun b : List Stmt => bodyAt 22 = b := by
  refine ⟨?_, ?_⟩
  rotate_left
  conv => lhs; reduce
noncomputable def nn102 : PSigma fun b : List (Str × NameKind) => namesAt 22 = b := by
  refine ⟨?_, ?_⟩
  rotate_left
  conv => lhs; reduce
noncomputable def nb109 : PSigma fun b : List Stmt => bodyAt 23 = b := by
  refine ⟨?_, ?_⟩
  rotate_left
  conv => lhs; reduce
noncomputable def nn109 : PSigma fun b : List (Str × NameKind) => namesAt 23 = b := by
  refine ⟨?_, ?_⟩
  rotate_left
  conv => lhs; reduce
noncomputable def nb116 : PSigma fun b : List Stmt => bodyAt 24 = b := by
  refine ⟨?_, ?_⟩
  rotate_left
  conv => lhs; reduce
noncomputable def nn116 : PSigma fun b : List (Str × NameKind) => namesAt 24 = b := by
  refine ⟨?_, ?_⟩
  rotate_left
  conv => lhs; reduce
noncomputable def nb123 : PSigma fun b : List Stmt => bodyAt 25 = b := by
  refine ⟨?_, ?_⟩
  rotate_left
  conv => lhs; reduce
noncomputable def nn123 : PSigma fun b : List (Str × NameKind) => namesAt 25 = b := by
  refine ⟨?_, ?_⟩
  rotate_left
  conv => lhs; reduce
noncomputable def nb130 : PSigma fun b : List Stmt => bodyAt 26 = b := by
  refine ⟨?_, ?_⟩
  rotate_left
  conv => lhs; reduce
noncomputable def nn130 : PSigma fun b : List (Str × NameKind) => namesAt 26 = b := by
  refine ⟨?_, ?_⟩
  rotate_left
  conv => lhs; reduce
noncomputable def nb137 : PSigma fun b : List Stmt => bodyAt 27 = b := by
  refine ⟨?_, ?_⟩
  rotate_left
  conv => lhs; reduce
noncomputable def nn137 : PSigma fun b : List (Str × NameKind) => namesAt 27 = b := by
  refine ⟨?_, ?_⟩
  rotate_left
  conv => lhs; reduce
noncomputable def nb144 : PSigma fun b : List Stmt => bodyAt 28 = b := by
  refine ⟨?_, ?_⟩
  rotate_left
  conv => lhs; reduce
noncomputable def nn144 : PSigma fun b : List (Str × NameKind) => namesAt 28 = b := by
  refine ⟨?_, ?_⟩
  rotate_left
  conv => lhs; reduce
noncomputable def nb151 : PSigma fun b : List Stmt => bodyAt 29 = b := by
  refine ⟨?_, ?_⟩
  rotate_left
  conv => lhs; reduce
noncomputable def nn151 : PSigma fun b : List (Str × NameKind) => namesAt 29 = b := by
  refine ⟨?_, ?_⟩
  rotate_left
  conv => lhs; reduce
noncomputable def nb158 : PSigma fun b : List Stmt => bodyAt 30 = b := by
  refine ⟨?_, ?_⟩
  rotate_left
  conv => lhs; reduce
noncomputable def nn158 : PSigma fun b : List (Str × NameKind) => namesAt 30 = b := by
  refine ⟨?_, ?_⟩
  rotate_left
  conv => lhs; reduce
noncomputable def nb165 : PSigma fun b : List Stmt => bodyAt 31 = b := by
  refine ⟨?_, ?_⟩
  rotate_left
  conv => lhs; reduce
noncomputable def nn165 : PSigma fun b : List (Str × NameKind) => namesAt 31 = b := by
  refine ⟨?_, ?_⟩
  rotate_left
  conv => lhs; reduce
noncomputable def nb172 : PSigma fun b : List Stmt => bodyAt 32 = b := by
  refine ⟨?_, ?_⟩
  rotate_left
  conv => lhs; reduce
noncomputable def nn172 : PSigma fun b : List (Str × NameKind) => namesAt 32 = b := by
  refine ⟨?_, ?_⟩
  rotate_left
  conv => lhs; reduce
noncomputable def nb179 : PSigma fun b : List Stmt => bodyAt 33 = b := by
  refine ⟨?_, ?_⟩
  rotate_left
  conv => lhs; reduce
noncomputable def nn179 : PSigma fun b : List (Str × NameKind) => namesAt 33 = b := by
  refine ⟨?_, ?_⟩
  rotate_left
  conv => lhs; reduce
noncomputable def nb186 : PSigma fun b : List Stmt => bodyAt 34 = b := by
  refine ⟨?_, ?_⟩
  rotate_left
  conv => lhs; reduce
noncomputable def nn186 : PSigma fun b : List (Str × NameKind) => namesAt 34 = b := by
  refine ⟨?_, ?_⟩
  rotate_left
  conv => lhs; reduce
noncomputable def nb193 : PSigma fun b : List Stmt => bodyAt 35 = b := by
  refine ⟨?_, ?_⟩
  rotate_left
  conv => lhs; reduce
noncomputable def nn193 : PSigma fun b : List (Str × NameKind) => namesAt 35 = b := by
  refine ⟨?_, ?_⟩
  rotate_left
  conv => lhs; reduce
noncomputable def nb200 : PSigma fun b : List Stmt => bodyAt 36 = b := by
  refine ⟨?_, ?_⟩
  rotate_left
  conv => lhs; reduce
noncomputable def nn200 : PSigma fun b : List (Str × NameKind) => namesAt 36 = b := by
  refine ⟨?_, ?_⟩
  rotate_left
  conv => lhs; reduce
noncomputable def nb207 : PSigma fun b : List Stmt => bodyAt 37 = b := by
  refine ⟨?_, ?_⟩
  rotate_left
  conv => lhs; reduce
noncomputable def nn207 : PSigma fun b : List (Str × NameKind) => namesAt 37 = b := by
  refine ⟨?_, ?_⟩
  rotate_left
  conv => lhs; reduce
noncomputable def nb214 : PSigma fun b : List Stmt => bodyAt 38 = b := by
  refine ⟨?_, ?_⟩
  rotate_left
  conv => lhs; reduce
noncomputable def nn214 : PSigma fun b : List (Str × NameKind) => namesAt 38 = b := by
  refine ⟨?_, ?_⟩
  rotate_left
  conv => lhs; reduce
noncomputable def nb221 : PSigma fun b : List Stmt => bodyAt 39 = b := by
  refine ⟨?_, ?_⟩
  rotate_left
  conv => lhs; reduce
noncomputable def nn221 : PSigma fun b : List (Str × NameKind) => namesAt 39 = b := by
  refine ⟨?_, ?_⟩
  rotate_left
  conv => lhs; reduce
noncomputable def nb228 : PSigma fun b : List Stmt => bodyAt 40 = b := by
  refine ⟨?_, ?_⟩
  rotate_left
  conv => lhs; reduce
noncomputable def nn228 : PSigma fun b : List (Str × NameKind) => namesAt 40 = b := by
  refine ⟨?_, ?_⟩
  rotate_left
  conv => lhs; reduce
noncomputable def nb235 : PSigma fun b : List Stmt => bodyAt 41 = b := by
  refine ⟨?_, ?_⟩
  rotate_left
  conv => lhs; reduce
noncomputable def nn235 : PSigma fun b : List (Str × NameKind) => namesAt 41 = b := by
  refine ⟨?_, ?_⟩
  rotate_left
  conv => lhs; reduce
noncomputable def nb242 : PSigma fun b : List Stmt => bodyAt 42 = b := by
  refine ⟨?_, ?_⟩
  rotate_left
  conv => lhs; reduce
noncomputable def nn242 : PSigma fun b : List (Str × NameKind) => namesAt 42 = b := by
  refine ⟨?_, ?_⟩
  rotate_left
  conv => lhs; reduce
noncomputable def nb249 : PSigma fun b : List Stmt => bodyAt 43 = b := by
  refine ⟨?_, ?_⟩
  rotate_left
  conv => lhs; reduce
noncomputable def nn249 : PSigma fun b : List (Str × NameKind) => namesAt 43 = b := by
  refine ⟨?_, ?_⟩
  rotate_left
  conv => lhs; reduce
noncomputable def nb256 : PSigma fun b : List Stmt => bodyAt 44 = b := by
  refine ⟨?_, ?_⟩
  rotate_left
  conv => lhs; reduce
noncomputable def nn256 : PSigma fun b : List (Str × NameKind) => namesAt 44 = b := by
  refine ⟨?_, ?_⟩
  rotate_left
  conv => lhs; reduce
noncomputable def nb263 : PSigma fun b : List Stmt => bodyAt 45 = b := by
  refine ⟨?_, ?_⟩
  rotate_left
  conv => lhs; reduce
noncomputable def nn263 : PSigma fun b : List (Str × NameKind) => namesAt 45 = b := by
  refine ⟨?_, ?_⟩
  rotate_left
  conv => lhs; reduce
noncomputable def nb272 : PSigma fun b : List Stmt => bodyAt 47 = b := by
  refine ⟨?_, ?_⟩
  rotate_left
  conv => lhs; reduce
noncomputable def nn272 : PSigma fun b : List (Str × NameKind) => namesAt 47 = b := by
  refine ⟨?_, ?_⟩
  rotate_left
  conv => lhs; reduce
noncomputable def nb356 : PSigma fun b : List Stmt => bodyAt 53 = b := by
  refine ⟨?_, ?_⟩
  rotate_left
  conv => lhs; reduce
noncomputable def nn356 : PSigma fun b : List (Str × NameKind) => namesAt 53 = b := by
  refine ⟨?_, ?_⟩
  rotate_left
  conv => lhs; reduce
noncomputable def nb365 : PSigma fun b : List Stmt => bodyAt 56 = b := by
  refine ⟨?_, ?_⟩
  rotate_left
  conv => lhs; reduce
noncomputable def nn365 : PSigma fun b : List (Str × NameKind) => namesAt 56 = b := by
  refine ⟨?_, ?_⟩
  rotate_left
  conv => lhs; reduce
noncomputable def nb372 : PSigma fun b : List Stmt => bodyAt 58 = b := by
  refine ⟨?_, ?_⟩
  rotate_left
  conv => lhs; reduce
noncomputable def nn372 : PSigma fun b : List (Str × NameKind) => namesAt 58 = b := by
  refine ⟨?_, ?_⟩
  rotate_left
  conv => lhs; reduce
noncomputable def nb379 : PSigma fun b : List Stmt => bodyAt 59 = b := by
  refine ⟨?_, ?_⟩
  rotate_left
  conv => lhs; reduce
noncomputable def nn379 : PSigma fun b : List (Str × NameKind) => namesAt 59 = b := by
  refine ⟨?_, ?_⟩
  rotate_left
  conv => lhs; reduce
noncomputable def nb386 : PSigma fun b : List Stmt => bodyAt 60 = b := by
  refine ⟨?_, ?_⟩
  rotate_left
  conv => lhs; reduce
noncomputable def nn386 : PSigma fun b : List (Str × NameKind) => namesAt 60 = b := by
  refine ⟨?_, ?_⟩
  rotate_left
  conv => lhs; reduce
noncomputable def nb393 : PSigma fun b : List Stmt => bodyAt 61 = b := by
  refine ⟨?_, ?_⟩
  rotate_left
  conv => lhs; reduce
noncomputable def nn393 : PSigma fun b : List (Str × NameKind) => namesAt 61 = b := by
  refine ⟨?_, ?_⟩
  rotate_left
  conv => lhs; reduce
noncomputable def nb400 : PSigma fun b : List Stmt => bodyAt 62 = b := by
  refine ⟨?_, ?_⟩
  rotate_left
  conv => lhs; reduce
noncomputable def nn400 : PSigma fun b : List (Str × NameKind) => namesAt 62 = b := by
  refine ⟨?_, ?_⟩
  rotate_left
  conv => lhs; reduce
noncomputable def nb407 : PSigma fun b : List Stmt => bodyAt 63 = b := by
  refine ⟨?_, ?_⟩
  rotate_left
  conv => lhs; reduce
noncomputable def nn407 : PSigma fun b : List (Str × NameKind) => namesAt 63 = b := by
  refine ⟨?_, ?_⟩
  rotate_left
  conv => lhs; reduce
noncomputable def nb414 : PSigma fun b : List Stmt => bodyAt 64 = b := by
  refine ⟨?_, ?_⟩
  rotate_left
  conv => lhs; reduce
noncomputable def nn414 : PSigma fun b : List (Str × NameKind) => namesAt 64 = b := by
  refine ⟨?_, ?_⟩
  rotate_left
  conv => lhs; reduce
noncomputable def nb419 : PSigma fun b : List Stmt => bodyAt 65 = b := by
  refine ⟨?_, ?_⟩
  rotate_left
  conv => lhs; reduce
noncomputable def nn419 : PSigma fun b : List (Str × NameKind) => namesAt 65 = b := by
  refine ⟨?_, ?_⟩
  rotate_left
  conv => lhs; reduce
noncomputable def nb426 : PSigma fun b : List Stmt => bodyAt 66 = b := by
  refine ⟨?_, ?_⟩
  rotate_left
  conv => lhs; reduce
noncomputable def nn426 : PSigma fun b : List (Str × NameKind) => namesAt 66 = b := by
  refine ⟨?_, ?_⟩
  rotate_left
  conv => lhs; reduce
noncomputable def nb431 : PSigma fun b : List Stmt => bodyAt 67 = b := by
  refine ⟨?_, ?_⟩
  rotate_left
  conv => lhs; reduce
noncomputable def nn431 : PSigma fun b : List (Str × NameKind) => namesAt 67 = b := by
  refine ⟨?_, ?_⟩
  rotate_left
  conv => lhs; reduce
noncomputable def nb438 : PSigma fun b : List Stmt => bodyAt 68 = b := by
  refine ⟨?_, ?_⟩
  rotate_left
  conv => lhs; reduce
noncomputable def nn438 : PSigma fun b : List (Str × NameKind) => namesAt 68 = b := by
  refine ⟨?_, ?_⟩
  rotate_left
  conv => lhs; reduce
noncomputable def nb445 : PSigma fun b : List Stmt => bodyAt 69 = b := by
  refine ⟨?_, ?_⟩
  rotate_left
  conv => lhs; reduce
noncomputable def nn445 : PSigma fun b : List (Str × NameKind) => namesAt 69 = b := by
  refine ⟨?_, ?_⟩
  rotate_left
  conv => lhs; reduce
noncomputable def inlT : List (Nat × List Str × List (Str × NameKind) × List Stmt) := [
  (28, [⟨#[118, 97, 108, 117, 101]⟩], nn28.1, nb28.1),
  (46, [⟨#[118, 97, 108, 117, 101]⟩], nn46.1, nb46.1),
  (130, [⟨#[118, 97, 108, 117, 101]⟩], nn130.1, nb130.1),
  (137, [⟨#[111, 112, 101, 114, 97, 110, 100]⟩], nn137.1, nb137.1),
  (144, [⟨#[111, 112, 101, 114, 97, 110, 100]⟩, ⟨#[118, 97, 108, 117, 101]⟩], nn144.1, nb144.1),
  (151, [⟨#[115, 104, 97, 112, 101]⟩, ⟨#[111, 112]⟩], nn151.1, nb151.1),
  (123, [⟨#[111, 110, 101]⟩, ⟨#[111, 116, 104, 101, 114]⟩], nn123.1, nb123.1),
  (53, [⟨#[118, 97, 108, 117, 101]⟩], nn53.1, nb53.1),
  (102, [⟨#[109, 111, 114, 101]⟩], nn102.1, nb102.1),
  (228, [⟨#[111, 112]⟩, ⟨#[97]⟩, ⟨#[98]⟩, ⟨#[115, 104, 97, 112, 101]⟩], nn228.1, nb228.1),
  (393, [⟨#[118, 97, 108, 117, 101]⟩], nn393.1, nb393.1),
  (356, [], nn356.1, nb356.1),
  (365, [], nn365.1, nb365.1),
  (60, [⟨#[111, 112]⟩, ⟨#[97]⟩, ⟨#[98]⟩], nn60.1, nb60.1),
  (67, [⟨#[111, 112]⟩, ⟨#[97]⟩, ⟨#[98]⟩], nn67.1, nb67.1),
  (74, [⟨#[111, 112]⟩, ⟨#[97]⟩, ⟨#[98]⟩], nn74.1, nb74.1),
  (81, [⟨#[111, 112]⟩, ⟨#[97]⟩, ⟨#[98]⟩], nn81.1, nb81.1),
  (88, [⟨#[111, 112]⟩, ⟨#[97]⟩], nn88.1, nb88.1),
  (109, [⟨#[111, 112]⟩, ⟨#[97, 114, 103, 115]⟩], nn109.1, nb109.1),
  (95, [⟨#[111, 112]⟩, ⟨#[97, 114, 103, 115]⟩], nn95.1, nb95.1)]
noncomputable def outT : List (Nat × List Str × List (Str × NameKind) × List Stmt) := [
  (116, [⟨#[111, 112, 101, 114, 97, 110, 100]⟩, ⟨#[102, 97, 99, 116, 115]⟩], nn116.1, nb116.1),
  (256, [⟨#[111, 112, 101, 114, 97, 110, 100]⟩, ⟨#[98, 105, 116, 115]⟩, ⟨#[102, 97, 99, 116, 115]⟩], nn256.1, nb256.1),
  (272, [⟨#[111, 112]⟩, ⟨#[97, 114, 103, 115]⟩, ⟨#[102, 97, 99, 116, 115]⟩], nn272.1, nb272.1),
  (414, [⟨#[111, 112]⟩, ⟨#[118, 97, 108, 117, 101]⟩], nn414.1, nb414.1),
  (400, [⟨#[111, 112]⟩, ⟨#[111, 110, 101]⟩, ⟨#[111, 116, 104, 101, 114]⟩], nn400.1, nb400.1),
  (407, [⟨#[111, 112]⟩, ⟨#[111, 110, 101]⟩, ⟨#[111, 116, 104, 101, 114]⟩], nn407.1, nb407.1),
  (372, [⟨#[119, 101, 108, 108]⟩, ⟨#[115, 105, 122, 101]⟩], nn372.1, nb372.1),
  (379, [⟨#[119, 101, 108, 108]⟩], nn379.1, nb379.1),
  (386, [⟨#[119, 101, 108, 108]⟩, ⟨#[109, 97, 110, 121]⟩], nn386.1, nb386.1),
  (419, [⟨#[115, 104, 97, 112, 101]⟩, ⟨#[118, 97, 108, 117, 101, 115]⟩], nn419.1, nb419.1),
  (426, [⟨#[119, 101, 108, 108]⟩], nn426.1, nb426.1),
  (431, [⟨#[119, 101, 108, 108]⟩, ⟨#[109, 97, 110, 121]⟩, ⟨#[118, 97, 108, 117, 101, 115]⟩], nn431.1, nb431.1),
  (438, [⟨#[102, 97, 99, 116, 115]⟩, ⟨#[118, 97, 108, 117, 101, 115]⟩], nn438.1, nb438.1),
  (445, [⟨#[102, 97, 99, 116, 115]⟩, ⟨#[115, 104, 97, 112, 101]⟩, ⟨#[118, 97, 108, 117, 101, 115]⟩], nn445.1, nb445.1),
  (158, [⟨#[111, 112]⟩, ⟨#[97, 114, 103, 115]⟩, ⟨#[102, 97, 99, 116, 115]⟩], nn158.1, nb158.1),
  (165, [⟨#[111, 112]⟩, ⟨#[97, 114, 103, 115]⟩, ⟨#[102, 97, 99, 116, 115]⟩], nn165.1, nb165.1),
  (172, [⟨#[111, 112]⟩, ⟨#[97, 114, 103, 115]⟩, ⟨#[102, 97, 99, 116, 115]⟩], nn172.1, nb172.1),
  (179, [⟨#[111, 112]⟩, ⟨#[97, 114, 103, 115]⟩, ⟨#[102, 97, 99, 116, 115]⟩], nn179.1, nb179.1),
  (186, [⟨#[111, 112]⟩, ⟨#[97, 114, 103, 115]⟩, ⟨#[102, 97, 99, 116, 115]⟩], nn186.1, nb186.1),
  (193, [⟨#[111, 112]⟩, ⟨#[97, 114, 103, 115]⟩, ⟨#[102, 97, 99, 116, 115]⟩], nn193.1, nb193.1),
  (200, [⟨#[111, 112]⟩, ⟨#[97, 114, 103, 115]⟩, ⟨#[102, 97, 99, 116, 115]⟩], nn200.1, nb200.1),
  (207, [⟨#[111, 112]⟩, ⟨#[97, 114, 103, 115]⟩, ⟨#[102, 97, 99, 116, 115]⟩], nn207.1, nb207.1),
  (214, [⟨#[111, 112]⟩, ⟨#[97, 114, 103, 115]⟩, ⟨#[102, 97, 99, 116, 115]⟩], nn214.1, nb214.1),
  (221, [⟨#[111, 112]⟩, ⟨#[97, 114, 103, 115]⟩, ⟨#[102, 97, 99, 116, 115]⟩], nn221.1, nb221.1),
  (235, [⟨#[111, 112]⟩, ⟨#[97, 114, 103, 115]⟩, ⟨#[102, 97, 99, 116, 115]⟩], nn235.1, nb235.1),
  (242, [⟨#[111, 112]⟩, ⟨#[97, 114, 103, 115]⟩, ⟨#[102, 97, 99, 116, 115]⟩], nn242.1, nb242.1),
  (249, [⟨#[111, 112]⟩, ⟨#[97, 114, 103, 115]⟩, ⟨#[102, 97, 99, 116, 115]⟩], nn249.1, nb249.1),
  (263, [⟨#[111, 112]⟩, ⟨#[97, 114, 103, 115]⟩, ⟨#[102, 97, 99, 116, 115]⟩], nn263.1, nb263.1)]
noncomputable def ruleAt : O2 → Nat
  | .add => 158
  | .sub => 165
  | .mul => 172
  | .div => 186
  | .divu => 179
  | .rem => 186
  | .remu => 179
  | .and => 193
  | .or => 200
  | .xor => 207
  | .shl => 214
  | .shr => 214
  | .sar => 214
  | .lt => 221
  | .ltu => 221
  | .eq => 235
  | .ne => 235
noncomputable def ruleAt1 : O1 → Nat
  | .neg => 242
  | .not => 249
  | .sx8 => 263
  | .sx16 => 263
  | .zx8 => 263
  | .zx16 => 263
noncomputable def pre2 (o : O2) : Opd → Opd → Prop
  | .k _, .k v => (match o with
    | .shl => 31 < v
    | .shr => 31 < v
    | .sar => 31 < v
    | .divu => v = 0
    | .remu => v = 0
    | .div => v = 0 ∨ v = 4294967295
    | .rem => v = 0 ∨ v = 4294967295
    | _ => False)
  | .k _, .r _ => (match o with
    | .add => False
    | .mul => False
    | .and => False
    | .or => False
    | .xor => False
    | .eq => False
    | .ne => False
    | _ => True)
  | _, _ => True
inductive CT (k : Nat) : Addr → List D → Sg → (D → Sg → Prop) → Prop
  | span {V : List Int} {F : Fcs} {a : Opd} {σ : Sg} {Q : D → Sg → Prop} : Nat.blt 7 k = true → Con V F → a.wf V.length →
      (∀ lo hi, lo ≤ sg (a.v V) → sg (a.v V) ≤ hi → (∀ v, a = .k v → lo = sg v ∧ hi = sg v) → (∀ i o x y, a = .r i → look i F = some (.two o x y) → isCmp o = true → lo = 0 ∧ hi = 1) → Q (.tup [.int lo, .int hi]) σ) → CT k 116 [a.d, .fac F.d] σ Q
  | inner {V : List Int} {F : Fcs} {i : Nat} {bits : Int} {σ : Sg} {Q : D → Sg → Prop} : Nat.blt 7 k = true → Con V F → i < V.length → (bits = 8 ∨ bits = 16) → Q .none σ →
      (∀ u, Opd.wf i (.k u) → 3 ≤ i → u % 2 ^ bits.toNat = (V.getD i 0) % 2 ^ bits.toNat → Q (Opd.d (.k u)) σ) →
      (∀ x, x < i → 3 ≤ i → (V.getD x 0) % 2 ^ bits.toNat = (V.getD i 0) % 2 ^ bits.toNat → Q (Opd.d (.r x)) σ) → CT k 256 [Opd.d (.r i), .int bits, .fac F.d] σ Q
  | rule {V : List Int} {F : Fcs} {o : O2} {a b : Opd} {σ : Sg} {Q : D → Sg → Prop} : Nat.blt 9 k = true → Con V F → a.wf V.length → b.wf V.length → pre2 o a b → (∀ d, RP V (.two o a b) σ d σ → Q d σ) → CT k (ruleAt o) [.str o.nm, .lst [a.d, b.d], .fac F.d] σ Q
  | rule1 {V : List Int} {F : Fcs} {o : O1} {i : Nat} {σ : Sg} {Q : D → Sg → Prop} : Nat.blt 9 k = true → Con V F → i < V.length → (∀ d, RP V (.one o (.r i)) σ d σ → Q d σ) → CT k (ruleAt1 o) [.str o.nm, .lst [Opd.d (.r i)], .fac F.d] σ Q
  | lone {o : O1} {x : Int} {σ : Sg} {Q : D → Sg → Prop} : Nat.blt 4 k = true → W32 x → Q (semD (some (sem1 o x))) σ → CT k 414 [.str o.nm, .int x] σ Q
  | lsh {o : O2} {x y : Int} {σ : Sg} {Q : D → Sg → Prop} : Nat.blt 4 k = true → (o = .div ∨ o = .divu ∨ o = .rem ∨ o = .remu) → W32 x → W32 y → Q (semD (sem2 o x y)) σ → CT k 400 [.str o.nm, .int x, .int y] σ Q
  | ltwo {o : O2} {x y : Int} {σ : Sg} {Q : D → Sg → Prop} : Nat.blt 5 k = true → W32 x → W32 y → Q (semD (sem2 o x y)) σ → CT k 407 [.str o.nm, .int x, .int y] σ Q
  | ldraw {size : Int} {σ : Sg} {Q : D → Sg → Prop} : Nat.blt 3 k = true → InvS σ → 1 ≤ size ∧ size ≤ 65536 → (∀ (n : Nat) σ', n < size.toNat → InvS σ' → Q (.int (Int.ofNat n)) σ') → CT k 372 [.wel, .int size] σ Q
  | lcell {σ : Sg} {Q : D → Sg → Prop} : Nat.blt 4 k = true → InvS σ → (∀ v σ', W32 v → InvS σ' → Q (.int v) σ') → CT k 379 [.wel] σ Q
  | lopd {m : Nat} {σ : Sg} {Q : D → Sg → Prop} : Nat.blt 5 k = true → InvS σ → m ≤ 60000 → (∀ (a : Opd) σ', a.wf m → InvS σ' → Q a.d σ') → CT k 386 [.wel, .int (Int.ofNat m)] σ Q
  | ltold {V : List Int} {s : Shp} {σ : Sg} {Q : D → Sg → Prop} : Nat.blt 6 k = true → AllV V → s.wf V.length → (∀ w g, s ≠ .load w g) → (s.sem V = none → Q (.lst []) σ) → (∀ z, s.sem V = some z → W32 z → Q (.lst [.int z]) σ) → CT k 419 [s.d, .lst (V.map D.int)] σ Q
  | lload {σ : Sg} {Q : D → Sg → Prop} : Nat.blt 5 k = true → InvS σ → (∀ w s v σ', (w = 1 ∨ w = 2 ∨ w = 4) → W32 v → loadOk w s v → InvS σ' → Q (.lst [Shp.d (.load w s), .int v]) σ') → CT k 426 [.wel] σ Q
  | lshape {V : List Int} {σ : Sg} {Q : D → Sg → Prop} : Nat.blt 7 k = true → InvS σ → AllV V → 3 ≤ V.length ∧ V.length ≤ 9 → (∀ s v σ', Sok V s v → InvS σ' → Q (.lst [s.d, .int v]) σ') → CT k 431 [.wel, .int (Int.ofNat V.length), .lst (V.map D.int)] σ Q
  | rule0 {V : List Int} {F : Fcs} {o : O2} {a : Opd} {σ : Sg} {Q : D → Sg → Prop} : Nat.blt 9 k = true → Con V F → a.wf V.length → (o = .div ∨ o = .divu ∨ o = .rem ∨ o = .remu) → Q .none σ → CT k (ruleAt o) [.str o.nm, .lst [a.d, Opd.d (.k 0)], .fac F.d] σ Q
  | better {V : List Int} {F : Fcs} {s : Shp} {σ : Sg} {Q : D → Sg → Prop} : Nat.blt 12 k = true → Con V F → s.wf V.length → (∀ w g, s ≠ .load w g) → (∀ d, BtP V s d → Q d σ) → CT k 272 [.str s.op, .lst s.args, .fac F.d] σ Q
  | better0 {V : List Int} {F : Fcs} {o : O2} {a : Opd} {σ : Sg} {Q : D → Sg → Prop} : Nat.blt 12 k = true → Con V F → a.wf V.length → (o = .div ∨ o = .divu ∨ o = .rem ∨ o = .remu) → Q .none σ → CT k 272 [.str o.nm, .lst [a.d, Opd.d (.k 0)], .fac F.d] σ Q
  | lright {V : List Int} {F : Fcs} {s : Shp} {σ : Sg} {Q : D → Sg → Prop} : Nat.blt 13 k = true → Con V F → AllV V → s.wf V.length → isOp s = true → Q (.bool true) σ → CT k 445 [.fac F.d, s.d, .lst (V.map D.int)] σ Q
  | lspans {V : List Int} {F : Fcs} {σ : Sg} {Q : D → Sg → Prop} : Nat.blt 8 k = true → Con V F → AllV V → Q (.bool true) σ → CT k 438 [.fac F.d, .lst (V.map D.int)] σ Q
theorem told_is {k : Nat} {V : List Int} {s : Shp} {σ : Sg} {Q : D → Sg → Prop} {z : Int} (h0 : Nat.blt 6 k = true) (hV : AllV V) (hw : s.wf V.length) (hn : ∀ w g, s ≠ .load w g) (hz : s.sem V = some z) (h : Q (.lst [.int z]) σ) : CT k 419 [s.d, .lst (V.map D.int)] σ Q :=
  .ltold h0 hV hw hn (fun e => by rw [hz] at e; cases e) fun z' e _ => by rw [hz] at e; cases e; exact h
noncomputable def ctI : Nat → (Addr → List D → Sg → (D → Sg → Prop) → Prop)
  | 0 => fun _ _ _ _ => False
  | k + 1 => fun a ds σ Q => match Nat.blt 1 k with
    | false => False
    | true => (match lkN a inlT with
      | some (xs, names, body) => onlyT (Nat.beq ds.length xs.length) (wpSs ⟨GL, k, fun _ => ctI k⟩ 60 ⟨names, []⟩ body (pz xs ds) σ (fun _ σ => Q .none σ) Q)
      | none => CT (k + 1) a ds σ Q)
noncomputable abbrev gx (k : Nat) : Gx := ⟨GL, k, fun _ => ctI k⟩
@[reducible] def Vt (k : Nat) (names : List (Str × NameKind)) (body : List Stmt) (xs : List Str) (ds : List D) (σ : Sg) (Q : D → Sg → Prop) : Prop :=
  wpSs (gx k) 60 (fcx names xs ds) body (locOf names (pz xs ds)) σ (fun _ σ => Q .none σ) Q
@[reducible] def Vc (k : Nat) (names : List (Str × NameKind)) (body : List Stmt) (xs : List Str) (ds : List D) (σ : Sg) (Q : D → Sg → Prop) : Prop :=
  wpSs (gx k) 60 ⟨names, []⟩ body (pz xs ds) σ (fun _ σ => Q .none σ) Q
noncomputable def prR : List Str := [⟨#[111, 112]⟩, ⟨#[97, 114, 103, 115]⟩, ⟨#[102, 97, 99, 116, 115]⟩]
end Mine.Internal

end
section
open PySem PySem.W PyProof.Rows PySem.Calls
set_option Elab.async false
set_option tactic.hygienic false
set_option maxRecDepth 100000
set_option maxHeartbeats 4000000
set_option linter.all false
set_option backward.match.sparseCases false
set_option bootstrap.genMatcherCode false
namespace Mine.Internal
theorem vc_add_rule_add_rk (V : List Int) (F : Fcs) (hcn : Con V F) (i : Nat) (v : Int) (ha : Opd.wf V.length (.r i)) (hb : Opd.wf V.length (.k v)) (σ : Sg) : Vc 9 nn158.1 nb158.1 prR [.str (O2.nm .add), .lst [Opd.d (.r i), Opd.d (.k v)], .fac F.d] σ (RP V (.two .add (.r i) (.k v)) σ) := by
  have hb' : 0 ≤ v ∧ v < 4294967296 := hb
  unfold Vc
  repeat' ((first | change @Bool.rec (fun _ => Prop) _ _ _ | change RP _ _ _ _ _ | change CT _ _ _ _ _ | change And _ _ | change WM _ _ _ | change Ok _ _ _ | conv => whnf); first
    | refine WIf.off (by with_reducible assumption) ?_
    | (refine wif2 rfl (fun e => ?_) (fun hc => ?_); focus (subst e; rcases x with (xk | xr) <;> rcases y with (yk | yr)))
    | refine wif2n rfl ?_
    | refine wif1n rfl ?_
    | refine WIf.mk (fun hc => ?_) (fun hc => ?_)
    | refine wm_fac hcn (fun o x y hf => ?_) (fun o x hf => ?_) (fun w s hf => ?_) (fun off hf => ?_) (fun off hf => ?_) (fun hf => ?_)
    | exact hK _ rfl
    | exact RP.none
    | refine RP.some rfl rfl ?_
    | refine And.intro (by first | decide | (first | lia | omega)) ?_)
  all_goals first
    | exact ok_add_0 ha hcn hc
    | exact ok_add_name hcn hf (.inl rfl)
    | exact ok_add_name hcn hf (.inr rfl)
    | exact ok_add_add hcn hb hf
theorem vc_add_rule_add_rr (V : List Int) (F : Fcs) (hcn : Con V F) (i : Nat) (j : Nat) (ha : Opd.wf V.length (.r i)) (hb : Opd.wf V.length (.r j)) (σ : Sg) : Vc 9 nn158.1 nb158.1 prR [.str (O2.nm .add), .lst [Opd.d (.r i), Opd.d (.r j)], .fac F.d] σ (RP V (.two .add (.r i) (.r j)) σ) := by
  unfold Vc
  repeat' ((first | change @Bool.rec (fun _ => Prop) _ _ _ | change RP _ _ _ _ _ | change CT _ _ _ _ _ | change And _ _ | change WM _ _ _ | change Ok _ _ _ | conv => whnf); first
    | (refine wif2 rfl (fun e => ?_) (fun hc => ?_); focus (subst e; rcases x with (xk | xr) <;> rcases y with (yk | yr)))
    | refine wif2n rfl ?_
    | (refine wif1 rfl (fun e => ?_) (fun hc => ?_); focus (subst e; rcases x with (xk | xr)))
    | refine wif1n rfl ?_
    | refine WIf.mk (fun hc => ?_) (fun hc => ?_)
    | refine wm_fac hcn (fun o x y hf => ?_) (fun o x hf => ?_) (fun w s hf => ?_) (fun off hf => ?_) (fun off hf => ?_) (fun hf => ?_)
    | refine loop2 (fun K' hK => ?_) (fun K' hK => ?_) ?_
    | exact hK _ rfl
    | exact RP.none
    | refine RP.some rfl rfl ?_
    | refine And.intro (by first | decide | (first | lia | omega)) ?_)
  all_goals first
    | exact ok_add_neg hcn ha hf
    | exact ok_add_neg' hcn hb hf
    | exact ok_add_sub hcn hf hc
    | exact ok_add_sub' hcn hf hc
end Mine.Internal

end
section
open PySem PySem.W PyProof.Rows PySem.Calls
set_option Elab.async false
set_option tactic.hygienic false
set_option maxRecDepth 100000
set_option maxHeartbeats 4000000
set_option linter.all false
set_option backward.match.sparseCases false
set_option bootstrap.genMatcherCode false
namespace Mine.Internal
theorem vc_sub_rule_sub_kr (V : List Int) (F : Fcs) (hcn : Con V F) (u : Int) (j : Nat) (ha : Opd.wf V.length (.k u)) (hb : Opd.wf V.length (.r j)) (σ : Sg) : Vc 9 nn165.1 nb165.1 prR [.str (O2.nm .sub), .lst [Opd.d (.k u), Opd.d (.r j)], .fac F.d] σ (RP V (.two .sub (.k u) (.r j)) σ) := by
  have ha' : 0 ≤ u ∧ u < 4294967296 := ha
  unfold Vc
  repeat' ((conv => whnf); first
    | refine wif2n rfl ?_
    | (refine wif1 rfl (fun e => ?_) (fun hc => ?_); focus (subst e; rcases x with (xk | xr)))
    | refine WIf.mk (fun hc => ?_) (fun hc => ?_)
    | refine wm_fac hcn (fun o x y hf => ?_) (fun o x hf => ?_) (fun w s hf => ?_) (fun off hf => ?_) (fun off hf => ?_) (fun hf => ?_)
    | exact RP.none
    | refine RP.some rfl rfl ?_
    | refine And.intro (by first | decide | (first | lia | omega)) ?_)
  all_goals first
    | exact ok_sub_0 hb hc
    | exact ok_sub_neg hcn ha hf
theorem vc_sub_rule_sub_rk (V : List Int) (F : Fcs) (hcn : Con V F) (i : Nat) (v : Int) (ha : Opd.wf V.length (.r i)) (hb : Opd.wf V.length (.k v)) (σ : Sg) : Vc 9 nn165.1 nb165.1 prR [.str (O2.nm .sub), .lst [Opd.d (.r i), Opd.d (.k v)], .fac F.d] σ (RP V (.two .sub (.r i) (.k v)) σ) := by
  have hb' : 0 ≤ v ∧ v < 4294967296 := hb
  unfold Vc
  repeat' ((conv => whnf); first
    | refine RP.some rfl rfl ?_
    | refine And.intro (by first | decide | (first | lia | omega)) ?_)
  all_goals first
    | exact ok_sub_k ha
theorem vc_sub_rule_sub_rr (V : List Int) (F : Fcs) (hcn : Con V F) (i : Nat) (j : Nat) (ha : Opd.wf V.length (.r i)) (hb : Opd.wf V.length (.r j)) (σ : Sg) : Vc 9 nn165.1 nb165.1 prR [.str (O2.nm .sub), .lst [Opd.d (.r i), Opd.d (.r j)], .fac F.d] σ (RP V (.two .sub (.r i) (.r j)) σ) := by
  unfold Vc
  repeat' ((conv => whnf); first
    | (refine wif2 rfl (fun e => ?_) (fun hc => ?_); focus (subst e; rcases x with (xk | xr) <;> rcases y with (yk | yr)))
    | refine wif2n rfl ?_
    | (refine wif1 rfl (fun e => ?_) (fun hc => ?_); focus (subst e; rcases x with (xk | xr)))
    | refine wif1n rfl ?_
    | refine WIf.mk (fun hc => ?_) (fun hc => ?_)
    | refine wm_fac hcn (fun o x y hf => ?_) (fun o x hf => ?_) (fun w s hf => ?_) (fun off hf => ?_) (fun off hf => ?_) (fun hf => ?_)
    | exact RP.none
    | refine RP.some rfl rfl ?_
    | refine And.intro (by first | decide | (first | lia | omega)) ?_)
  all_goals first
    | exact ok_sub_self rfl hc
    | exact ok_sub_neg hcn ha hf
    | exact ok_sub_add1 hcn hf hc
    | exact ok_sub_add2 hcn hf hc
end Mine.Internal

end
section
open PySem PySem.W PyProof.Rows PySem.Calls
set_option Elab.async false
set_option tactic.hygienic false
set_option maxRecDepth 100000
set_option maxHeartbeats 4000000
set_option linter.all false
set_option backward.match.sparseCases false
set_option bootstrap.genMatcherCode false
namespace Mine.Internal
theorem vc_mul_rule_mul_rk (V : List Int) (F : Fcs) (hcn : Con V F) (i : Nat) (v : Int) (ha : Opd.wf V.length (.r i)) (hb : Opd.wf V.length (.k v)) (σ : Sg) : Vc 9 nn172.1 nb172.1 prR [.str (O2.nm .mul), .lst [Opd.d (.r i), Opd.d (.k v)], .fac F.d] σ (RP V (.two .mul (.r i) (.k v)) σ) := by
  have hb' : 0 ≤ v ∧ v < 4294967296 := hb
  unfold Vc
  repeat' ((first | change @Bool.rec (fun _ => Prop) _ _ _ | change RP _ _ _ _ _ | change CT _ _ _ _ _ | change And _ _ | change WM _ _ _ | change Ok _ _ _ | conv => whnf); first
    | refine WIf.off (by with_reducible assumption) ?_
    | (refine wif2 rfl (fun e => ?_) (fun hc => ?_); focus (subst e; rcases x with (xk | xr) <;> rcases y with (yk | yr)))
    | refine wif1n rfl ?_
    | refine WIf.mk (fun hc => ?_) (fun hc => ?_)
    | refine wm_fac hcn (fun o x y hf => ?_) (fun o x hf => ?_) (fun w s hf => ?_) (fun off hf => ?_) (fun off hf => ?_) (fun hf => ?_)
    | exact RP.none
    | refine RP.some rfl rfl ?_
    | refine And.intro (by first | decide | (first | lia | omega) | (have hw := (Con.two hcn hf).2.2.2.1; simp only [Opd.wf] at hw; (first | lia | omega)) | (have hw := (Con.two hcn hf).2.2.2.1; have hl : yk < 32 := of_dec hc; simp only [Opd.wf] at hw; (first | lia | omega))) ?_)
  all_goals first
    | exact ok_mul_0 rfl hc
    | exact ok_mul_1 hcn ha hc
    | exact ok_mul_neg ha hc
    | exact ok_mul_mul hcn hf
    | exact ok_mul_shl hcn hf hc
    | exact ok_mul_pow ha hb (by assumption) (by assumption) (by assumption)
theorem vc_mul_rule_mul_rr (V : List Int) (F : Fcs) (hcn : Con V F) (i : Nat) (j : Nat) (ha : Opd.wf V.length (.r i)) (hb : Opd.wf V.length (.r j)) (σ : Sg) : Vc 9 nn172.1 nb172.1 prR [.str (O2.nm .mul), .lst [Opd.d (.r i), Opd.d (.r j)], .fac F.d] σ (RP V (.two .mul (.r i) (.r j)) σ) := by
  unfold Vc
  repeat' ((first | change @Bool.rec (fun _ => Prop) _ _ _ | change RP _ _ _ _ _ | change CT _ _ _ _ _ | change And _ _ | change WM _ _ _ | change Ok _ _ _ | conv => whnf); first
    | exact RP.none
    | refine And.intro (by first | decide | (first | lia | omega)) ?_)
  all_goals first
    | exact ok_mul_pow ha hb (by assumption) (by assumption) (by assumption)
end Mine.Internal

end
section
open PySem PySem.W PyProof.Rows PySem.Calls
set_option Elab.async false
set_option tactic.hygienic false
set_option maxRecDepth 100000
set_option maxHeartbeats 4000000
set_option linter.all false
set_option backward.match.sparseCases false
set_option bootstrap.genMatcherCode false
namespace Mine.Internal
theorem vc_unsigned_division_rule_divu_kk (V : List Int) (F : Fcs) (hcn : Con V F) (u : Int) (v : Int) (ha : Opd.wf V.length (.k u)) (hb : Opd.wf V.length (.k v)) (hw : v = 0) (σ : Sg) : Vc 9 nn179.1 nb179.1 prR [.str (O2.nm .divu), .lst [Opd.d (.k u), Opd.d (.k v)], .fac F.d] σ (RP V (.two .divu (.k u) (.k v)) σ) := by
  have ha' : 0 ≤ u ∧ u < 4294967296 := ha
  have hb' : 0 ≤ v ∧ v < 4294967296 := hb
  unfold Vc
  repeat' ((conv => whnf); first
    | refine WIf.off (by with_reducible assumption) ?_
    | refine WIf.mk (fun hc => ?_) (fun hc => ?_)
    | exact RP.none
    | refine RP.some rfl rfl ?_
    | refine CT.span (V := V) (F := F) (a := .r _) rfl hcn (by assumption) (fun lo hi h1 h2 h3 h4 => ?_)
    | refine CT.span (V := V) (F := F) (a := .k _) rfl hcn (by assumption) (fun lok hik k1 k2 k3 k4 => ?_)
    | refine And.intro (by first | decide | (first | lia | omega)) ?_)
  all_goals first
    | exact (kk_udiv hw (by assumption)).elim
theorem vc_unsigned_division_rule_divu_kr (V : List Int) (F : Fcs) (hcn : Con V F) (u : Int) (j : Nat) (ha : Opd.wf V.length (.k u)) (hb : Opd.wf V.length (.r j)) (σ : Sg) : Vc 9 nn179.1 nb179.1 prR [.str (O2.nm .divu), .lst [Opd.d (.k u), Opd.d (.r j)], .fac F.d] σ (RP V (.two .divu (.k u) (.r j)) σ) := by
  have ha' : 0 ≤ u ∧ u < 4294967296 := ha
  unfold Vc
  repeat' ((conv => whnf); first
    | exact RP.none
    | refine And.intro (by first | decide | (first | lia | omega)) ?_)
  all_goals first
    | exact ok_remu_p rfl ha hcn hb (by assumption) (by assumption) (by assumption)
theorem vc_unsigned_division_rule_divu_rk (V : List Int) (F : Fcs) (hcn : Con V F) (i : Nat) (v : Int) (ha : Opd.wf V.length (.r i)) (hb : Opd.wf V.length (.k v)) (σ : Sg) : Vc 9 nn179.1 nb179.1 prR [.str (O2.nm .divu), .lst [Opd.d (.r i), Opd.d (.k v)], .fac F.d] σ (RP V (.two .divu (.r i) (.k v)) σ) := by
  have hb' : 0 ≤ v ∧ v < 4294967296 := hb
  unfold Vc
  repeat' ((conv => whnf); first
    | refine WIf.off (by with_reducible assumption) ?_
    | refine WIf.mk (fun hc => ?_) (fun hc => ?_)
    | exact RP.none
    | refine RP.some rfl rfl ?_
    | refine CT.span (V := V) (F := F) (a := .r _) rfl hcn (by assumption) (fun lo hi h1 h2 h3 h4 => ?_)
    | refine CT.span (V := V) (F := F) (a := .k _) rfl hcn (by assumption) (fun lok hik k1 k2 k3 k4 => ?_)
    | refine And.intro (by first | decide | (first | lia | omega)) ?_)
  all_goals first
    | exact ok_divu_1 ha hcn hc
    | exact ok_divu_s rfl ha hcn h1 h2 (by assumption) hc
    | exact ok_divu_p ha hcn hb (by assumption) (by assumption) (by assumption)
theorem vc_unsigned_division_rule_divu_rr (V : List Int) (F : Fcs) (hcn : Con V F) (i : Nat) (j : Nat) (ha : Opd.wf V.length (.r i)) (hb : Opd.wf V.length (.r j)) (σ : Sg) : Vc 9 nn179.1 nb179.1 prR [.str (O2.nm .divu), .lst [Opd.d (.r i), Opd.d (.r j)], .fac F.d] σ (RP V (.two .divu (.r i) (.r j)) σ) := by
  unfold Vc
  repeat' ((conv => whnf); first
    | exact RP.none
    | refine And.intro (by first | decide | (first | lia | omega)) ?_)
  all_goals first
    | exact ok_remu_p rfl ha hcn hb (by assumption) (by assumption) (by assumption)
theorem vc_unsigned_division_rule_remu_kk (V : List Int) (F : Fcs) (hcn : Con V F) (u : Int) (v : Int) (ha : Opd.wf V.length (.k u)) (hb : Opd.wf V.length (.k v)) (hw : v = 0) (σ : Sg) : Vc 9 nn179.1 nb179.1 prR [.str (O2.nm .remu), .lst [Opd.d (.k u), Opd.d (.k v)], .fac F.d] σ (RP V (.two .remu (.k u) (.k v)) σ) := by
  have ha' : 0 ≤ u ∧ u < 4294967296 := ha
  have hb' : 0 ≤ v ∧ v < 4294967296 := hb
  unfold Vc
  repeat' ((conv => whnf); first
    | refine WIf.off (by with_reducible assumption) ?_
    | refine WIf.mk (fun hc => ?_) (fun hc => ?_)
    | exact RP.none
    | refine RP.some rfl rfl ?_
    | refine CT.span (V := V) (F := F) (a := .r _) rfl hcn (by assumption) (fun lo hi h1 h2 h3 h4 => ?_)
    | refine CT.span (V := V) (F := F) (a := .k _) rfl hcn (by assumption) (fun lok hik k1 k2 k3 k4 => ?_)
    | refine And.intro (by first | decide | (first | lia | omega)) ?_)
  all_goals first
    | exact (kk_udiv hw (by assumption)).elim
theorem vc_unsigned_division_rule_remu_kr (V : List Int) (F : Fcs) (hcn : Con V F) (u : Int) (j : Nat) (ha : Opd.wf V.length (.k u)) (hb : Opd.wf V.length (.r j)) (σ : Sg) : Vc 9 nn179.1 nb179.1 prR [.str (O2.nm .remu), .lst [Opd.d (.k u), Opd.d (.r j)], .fac F.d] σ (RP V (.two .remu (.k u) (.r j)) σ) := by
  have ha' : 0 ≤ u ∧ u < 4294967296 := ha
  unfold Vc
  repeat' ((conv => whnf); first
    | exact RP.none
    | refine And.intro (by first | decide | (first | lia | omega)) ?_)
  all_goals first
    | exact ok_remu_p rfl ha hcn hb (by assumption) (by assumption) (by assumption)
theorem vc_unsigned_division_rule_remu_rk (V : List Int) (F : Fcs) (hcn : Con V F) (i : Nat) (v : Int) (ha : Opd.wf V.length (.r i)) (hb : Opd.wf V.length (.k v)) (σ : Sg) : Vc 9 nn179.1 nb179.1 prR [.str (O2.nm .remu), .lst [Opd.d (.r i), Opd.d (.k v)], .fac F.d] σ (RP V (.two .remu (.r i) (.k v)) σ) := by
  have hb' : 0 ≤ v ∧ v < 4294967296 := hb
  unfold Vc
  repeat' ((conv => whnf); first
    | refine WIf.off (by with_reducible assumption) ?_
    | refine WIf.mk (fun hc => ?_) (fun hc => ?_)
    | exact RP.none
    | refine RP.some rfl rfl ?_
    | refine CT.span (V := V) (F := F) (a := .r _) rfl hcn (by assumption) (fun lo hi h1 h2 h3 h4 => ?_)
    | refine CT.span (V := V) (F := F) (a := .k _) rfl hcn (by assumption) (fun lok hik k1 k2 k3 k4 => ?_)
    | refine And.intro (by first | decide | (first | lia | omega)) ?_)
  all_goals first
    | exact ok_remu_1 rfl ha hcn hc
    | exact ok_remu_s ha hcn h1 h2 (by assumption) hc
    | exact ok_remu_p rfl ha hcn hb (by assumption) (by assumption) (by assumption)
theorem vc_unsigned_division_rule_remu_rr (V : List Int) (F : Fcs) (hcn : Con V F) (i : Nat) (j : Nat) (ha : Opd.wf V.length (.r i)) (hb : Opd.wf V.length (.r j)) (σ : Sg) : Vc 9 nn179.1 nb179.1 prR [.str (O2.nm .remu), .lst [Opd.d (.r i), Opd.d (.r j)], .fac F.d] σ (RP V (.two .remu (.r i) (.r j)) σ) := by
  unfold Vc
  repeat' ((conv => whnf); first
    | exact RP.none
    | refine And.intro (by first | decide | (first | lia | omega)) ?_)
  all_goals first
    | exact ok_remu_p rfl ha hcn hb (by assumption) (by assumption) (by assumption)
end Mine.Internal

end
section
open PySem PySem.W PyProof.Rows PySem.Calls
set_option Elab.async false
set_option tactic.hygienic false
set_option maxRecDepth 100000
set_option maxHeartbeats 4000000
set_option linter.all false
set_option backward.match.sparseCases false
set_option bootstrap.genMatcherCode false
namespace Mine.Internal
theorem vc_division_rule_div_kk (V : List Int) (F : Fcs) (hcn : Con V F) (u : Int) (v : Int) (ha : Opd.wf V.length (.k u)) (hb : Opd.wf V.length (.k v)) (hw : v = 0 ∨ v = 4294967295) (σ : Sg) : Vc 9 nn186.1 nb186.1 prR [.str (O2.nm .div), .lst [Opd.d (.k u), Opd.d (.k v)], .fac F.d] σ (RP V (.two .div (.k u) (.k v)) σ) := by
  have ha' : 0 ≤ u ∧ u < 4294967296 := ha
  have hb' : 0 ≤ v ∧ v < 4294967296 := hb
  unfold Vc
  repeat' ((first | change @Bool.rec (fun _ => Prop) _ _ _ | change RP _ _ _ _ _ | change CT _ _ _ _ _ | change And _ _ | change WM _ _ _ | change Ok _ _ _ | conv => whnf); first
    | refine WIf.mk (fun hc => ?_) (fun hc => ?_)
    | exact RP.none
    | refine RP.some rfl rfl ?_
    | refine CT.span (V := V) (F := F) (a := .r _) rfl hcn (by assumption) (fun lo hi h1 h2 h3 h4 => ?_)
    | refine CT.span (V := V) (F := F) (a := .k _) rfl hcn (by assumption) (fun lok hik k1 k2 k3 k4 => ?_)
    | refine And.intro (by first | decide | (first | lia | omega)) ?_)
  all_goals first
    | exact (kk_div1 hw (by assumption)).elim
    | exact (kk_div2 hw (by assumption) (by assumption)).elim
theorem vc_division_rule_div_kr (V : List Int) (F : Fcs) (hcn : Con V F) (u : Int) (j : Nat) (ha : Opd.wf V.length (.k u)) (hb : Opd.wf V.length (.r j)) (σ : Sg) : Vc 9 nn186.1 nb186.1 prR [.str (O2.nm .div), .lst [Opd.d (.k u), Opd.d (.r j)], .fac F.d] σ (RP V (.two .div (.k u) (.r j)) σ) := by
  have ha' : 0 ≤ u ∧ u < 4294967296 := ha
  unfold Vc
  repeat' ((first | change @Bool.rec (fun _ => Prop) _ _ _ | change RP _ _ _ _ _ | change CT _ _ _ _ _ | change And _ _ | change WM _ _ _ | change Ok _ _ _ | conv => whnf); first
    | exact RP.none
    | refine And.intro (by first | decide | (first | lia | omega)) ?_)
  all_goals first
    | exact ok_rem_u ha hb hcn h1 hc (by assumption) (by assumption)
theorem vc_division_rule_div_rk (V : List Int) (F : Fcs) (hcn : Con V F) (i : Nat) (v : Int) (ha : Opd.wf V.length (.r i)) (hb : Opd.wf V.length (.k v)) (σ : Sg) : Vc 9 nn186.1 nb186.1 prR [.str (O2.nm .div), .lst [Opd.d (.r i), Opd.d (.k v)], .fac F.d] σ (RP V (.two .div (.r i) (.k v)) σ) := by
  have hb' : 0 ≤ v ∧ v < 4294967296 := hb
  unfold Vc
  repeat' ((first | change @Bool.rec (fun _ => Prop) _ _ _ | change RP _ _ _ _ _ | change CT _ _ _ _ _ | change And _ _ | change WM _ _ _ | change Ok _ _ _ | conv => whnf); first
    | refine WIf.mk (fun hc => ?_) (fun hc => ?_)
    | exact RP.none
    | refine RP.some rfl rfl ?_
    | refine CT.span (V := V) (F := F) (a := .r _) rfl hcn (by assumption) (fun lo hi h1 h2 h3 h4 => ?_)
    | refine CT.span (V := V) (F := F) (a := .k _) rfl hcn (by assumption) (fun lok hik k1 k2 k3 k4 => ?_)
    | refine And.intro (by first | decide | (first | lia | omega)) ?_)
  all_goals first
    | exact ok_div_1 ha hcn hc
    | exact ok_div_u ha hb hcn h1 hc (by assumption) (by assumption)
theorem vc_division_rule_div_rr (V : List Int) (F : Fcs) (hcn : Con V F) (i : Nat) (j : Nat) (ha : Opd.wf V.length (.r i)) (hb : Opd.wf V.length (.r j)) (σ : Sg) : Vc 9 nn186.1 nb186.1 prR [.str (O2.nm .div), .lst [Opd.d (.r i), Opd.d (.r j)], .fac F.d] σ (RP V (.two .div (.r i) (.r j)) σ) := by
  unfold Vc
  repeat' ((first | change @Bool.rec (fun _ => Prop) _ _ _ | change RP _ _ _ _ _ | change CT _ _ _ _ _ | change And _ _ | change WM _ _ _ | change Ok _ _ _ | conv => whnf); first
    | exact RP.none
    | refine And.intro (by first | decide | (first | lia | omega)) ?_)
  all_goals first
    | exact ok_rem_u ha hb hcn h1 hc (by assumption) (by assumption)
theorem vc_division_rule_rem_kk (V : List Int) (F : Fcs) (hcn : Con V F) (u : Int) (v : Int) (ha : Opd.wf V.length (.k u)) (hb : Opd.wf V.length (.k v)) (hw : v = 0 ∨ v = 4294967295) (σ : Sg) : Vc 9 nn186.1 nb186.1 prR [.str (O2.nm .rem), .lst [Opd.d (.k u), Opd.d (.k v)], .fac F.d] σ (RP V (.two .rem (.k u) (.k v)) σ) := by
  have ha' : 0 ≤ u ∧ u < 4294967296 := ha
  have hb' : 0 ≤ v ∧ v < 4294967296 := hb
  unfold Vc
  repeat' ((first | change @Bool.rec (fun _ => Prop) _ _ _ | change RP _ _ _ _ _ | change CT _ _ _ _ _ | change And _ _ | change WM _ _ _ | change Ok _ _ _ | conv => whnf); first
    | refine WIf.mk (fun hc => ?_) (fun hc => ?_)
    | exact RP.none
    | refine RP.some rfl rfl ?_
    | refine CT.span (V := V) (F := F) (a := .r _) rfl hcn (by assumption) (fun lo hi h1 h2 h3 h4 => ?_)
    | refine CT.span (V := V) (F := F) (a := .k _) rfl hcn (by assumption) (fun lok hik k1 k2 k3 k4 => ?_)
    | refine And.intro (by first | decide | (first | lia | omega)) ?_)
  all_goals first
    | exact (kk_div1 hw (by assumption)).elim
    | exact (kk_div2 hw (by assumption) (by assumption)).elim
theorem vc_division_rule_rem_kr (V : List Int) (F : Fcs) (hcn : Con V F) (u : Int) (j : Nat) (ha : Opd.wf V.length (.k u)) (hb : Opd.wf V.length (.r j)) (σ : Sg) : Vc 9 nn186.1 nb186.1 prR [.str (O2.nm .rem), .lst [Opd.d (.k u), Opd.d (.r j)], .fac F.d] σ (RP V (.two .rem (.k u) (.r j)) σ) := by
  have ha' : 0 ≤ u ∧ u < 4294967296 := ha
  unfold Vc
  repeat' ((first | change @Bool.rec (fun _ => Prop) _ _ _ | change RP _ _ _ _ _ | change CT _ _ _ _ _ | change And _ _ | change WM _ _ _ | change Ok _ _ _ | conv => whnf); first
    | exact RP.none
    | refine And.intro (by first | decide | (first | lia | omega)) ?_)
  all_goals first
    | exact ok_rem_u ha hb hcn h1 hc (by assumption) (by assumption)
theorem vc_division_rule_rem_rk (V : List Int) (F : Fcs) (hcn : Con V F) (i : Nat) (v : Int) (ha : Opd.wf V.length (.r i)) (hb : Opd.wf V.length (.k v)) (σ : Sg) : Vc 9 nn186.1 nb186.1 prR [.str (O2.nm .rem), .lst [Opd.d (.r i), Opd.d (.k v)], .fac F.d] σ (RP V (.two .rem (.r i) (.k v)) σ) := by
  have hb' : 0 ≤ v ∧ v < 4294967296 := hb
  unfold Vc
  repeat' ((first | change @Bool.rec (fun _ => Prop) _ _ _ | change RP _ _ _ _ _ | change CT _ _ _ _ _ | change And _ _ | change WM _ _ _ | change Ok _ _ _ | conv => whnf); first
    | refine WIf.mk (fun hc => ?_) (fun hc => ?_)
    | exact RP.none
    | refine RP.some rfl rfl ?_
    | refine CT.span (V := V) (F := F) (a := .r _) rfl hcn (by assumption) (fun lo hi h1 h2 h3 h4 => ?_)
    | refine CT.span (V := V) (F := F) (a := .k _) rfl hcn (by assumption) (fun lok hik k1 k2 k3 k4 => ?_)
    | refine And.intro (by first | decide | (first | lia | omega)) ?_)
  all_goals first
    | exact ok_rem_1 rfl ha hcn hc
    | exact ok_rem_u ha hb hcn h1 hc (by assumption) (by assumption)
theorem vc_division_rule_rem_rr (V : List Int) (F : Fcs) (hcn : Con V F) (i : Nat) (j : Nat) (ha : Opd.wf V.length (.r i)) (hb : Opd.wf V.length (.r j)) (σ : Sg) : Vc 9 nn186.1 nb186.1 prR [.str (O2.nm .rem), .lst [Opd.d (.r i), Opd.d (.r j)], .fac F.d] σ (RP V (.two .rem (.r i) (.r j)) σ) := by
  unfold Vc
  repeat' ((first | change @Bool.rec (fun _ => Prop) _ _ _ | change RP _ _ _ _ _ | change CT _ _ _ _ _ | change And _ _ | change WM _ _ _ | change Ok _ _ _ | conv => whnf); first
    | exact RP.none
    | refine And.intro (by first | decide | (first | lia | omega)) ?_)
  all_goals first
    | exact ok_rem_u ha hb hcn h1 hc (by assumption) (by assumption)
end Mine.Internal

end
section
open PySem PySem.W PyProof.Rows PySem.Calls
set_option Elab.async false
set_option tactic.hygienic false
set_option maxRecDepth 100000
set_option maxHeartbeats 4000000
set_option linter.all false
set_option backward.match.sparseCases false
set_option bootstrap.genMatcherCode false
namespace Mine.Internal
theorem vc_and_rule_and_rk (V : List Int) (F : Fcs) (hcn : Con V F) (i : Nat) (v : Int) (ha : Opd.wf V.length (.r i)) (hb : Opd.wf V.length (.k v)) (σ : Sg) : Vc 9 nn193.1 nb193.1 prR [.str (O2.nm .and), .lst [Opd.d (.r i), Opd.d (.k v)], .fac F.d] σ (RP V (.two .and (.r i) (.k v)) σ) := by
  have hb' : 0 ≤ v ∧ v < 4294967296 := hb
  unfold Vc
  repeat' ((first | change @Bool.rec (fun _ => Prop) _ _ _ | change RP _ _ _ _ _ | change CT _ _ _ _ _ | change And _ _ | change WM _ _ _ | change Ok _ _ _ | conv => whnf); first
    | refine WIf.off (by with_reducible assumption) ?_
    | (refine wif2 rfl (fun e => ?_) (fun hc => ?_); focus (subst e; rcases x with (xk | xr) <;> rcases y with (yk | yr)))
    | refine wif1n rfl ?_
    | (refine wifin2 (fun p hc e => ?_) (fun hc => ?_); focus (cases p <;> first | exact absurd hc Bool.false_ne_true | (subst e; rcases x with (xk | xr) <;> rcases y with (yk | yr))))
    | (refine wifin1 (fun p hc e => ?_) (fun hc => ?_); focus (cases p <;> first | exact absurd hc Bool.false_ne_true | (subst e; rcases x with (xk | xr))))
    | refine WIf.mk (fun hc => ?_) (fun hc => ?_)
    | refine wm_fac hcn (fun o x y hf => ?_) (fun o x hf => ?_) (fun w s hf => ?_) (fun off hf => ?_) (fun off hf => ?_) (fun hf => ?_)
    | exact RP.none
    | refine RP.some rfl rfl ?_
    | refine CT.span (V := V) (F := F) (a := .r _) rfl hcn (by assumption) (fun lo hi h1 h2 h3 h4 => ?_)
    | refine CT.span (V := V) (F := F) (a := .k _) rfl hcn (by assumption) (fun lok hik k1 k2 k3 k4 => ?_)
    | refine And.intro (by first | decide | (first | lia | omega)) ?_)
  all_goals first
    | exact ok_and_0 rfl hc
    | exact ok_and_m hcn ha hc
    | exact ok_and_and hcn hb hf
    | exact ok_and_span hcn ha hb (by assumption) h1 h2 (by assumption) hc
    | exact ok_and_w8 hcn true hf hc
    | exact ok_and_w8 hcn false hf hc
    | exact ok_and_w16 hcn true hf hc
    | exact ok_and_w16 hcn false hf hc
theorem vc_and_rule_and_rr (V : List Int) (F : Fcs) (hcn : Con V F) (i : Nat) (j : Nat) (ha : Opd.wf V.length (.r i)) (hb : Opd.wf V.length (.r j)) (σ : Sg) : Vc 9 nn193.1 nb193.1 prR [.str (O2.nm .and), .lst [Opd.d (.r i), Opd.d (.r j)], .fac F.d] σ (RP V (.two .and (.r i) (.r j)) σ) := by
  unfold Vc
  repeat' ((first | change @Bool.rec (fun _ => Prop) _ _ _ | change RP _ _ _ _ _ | change CT _ _ _ _ _ | change And _ _ | change WM _ _ _ | change Ok _ _ _ | conv => whnf); first
    | refine WIf.mk (fun hc => ?_) (fun hc => ?_)
    | exact RP.none
    | refine RP.some rfl rfl ?_
    | refine And.intro (by first | decide | (first | lia | omega)) ?_)
  all_goals first
    | exact ok_and_self hcn ha hc
end Mine.Internal

end
section
open PySem PySem.W PyProof.Rows PySem.Calls
set_option Elab.async false
set_option tactic.hygienic false
set_option maxRecDepth 100000
set_option maxHeartbeats 4000000
set_option linter.all false
set_option backward.match.sparseCases false
set_option bootstrap.genMatcherCode false
namespace Mine.Internal
theorem vc_or_rule_or_rk (V : List Int) (F : Fcs) (hcn : Con V F) (i : Nat) (v : Int) (ha : Opd.wf V.length (.r i)) (hb : Opd.wf V.length (.k v)) (σ : Sg) : Vc 9 nn200.1 nb200.1 prR [.str (O2.nm .or), .lst [Opd.d (.r i), Opd.d (.k v)], .fac F.d] σ (RP V (.two .or (.r i) (.k v)) σ) := by
  have hb' : 0 ≤ v ∧ v < 4294967296 := hb
  unfold Vc
  repeat' ((first | change @Bool.rec (fun _ => Prop) _ _ _ | change RP _ _ _ _ _ | change CT _ _ _ _ _ | change And _ _ | change WM _ _ _ | change Ok _ _ _ | conv => whnf); first
    | refine WIf.off (by with_reducible assumption) ?_
    | (refine wif2 rfl (fun e => ?_) (fun hc => ?_); focus (subst e; rcases x with (xk | xr) <;> rcases y with (yk | yr)))
    | refine wif1n rfl ?_
    | refine WIf.mk (fun hc => ?_) (fun hc => ?_)
    | refine wm_fac hcn (fun o x y hf => ?_) (fun o x hf => ?_) (fun w s hf => ?_) (fun off hf => ?_) (fun off hf => ?_) (fun hf => ?_)
    | exact RP.none
    | refine RP.some rfl rfl ?_
    | refine And.intro (by first | decide | (first | lia | omega)) ?_)
  all_goals first
    | exact ok_or_0 ha hc
    | exact ok_or_m hcn ha hc
    | exact ok_or_or hcn hb hf
theorem vc_or_rule_or_rr (V : List Int) (F : Fcs) (hcn : Con V F) (i : Nat) (j : Nat) (ha : Opd.wf V.length (.r i)) (hb : Opd.wf V.length (.r j)) (σ : Sg) : Vc 9 nn200.1 nb200.1 prR [.str (O2.nm .or), .lst [Opd.d (.r i), Opd.d (.r j)], .fac F.d] σ (RP V (.two .or (.r i) (.r j)) σ) := by
  unfold Vc
  repeat' ((first | change @Bool.rec (fun _ => Prop) _ _ _ | change RP _ _ _ _ _ | change CT _ _ _ _ _ | change And _ _ | change WM _ _ _ | change Ok _ _ _ | conv => whnf); first
    | refine WIf.mk (fun hc => ?_) (fun hc => ?_)
    | exact RP.none
    | refine RP.some rfl rfl ?_
    | refine And.intro (by first | decide | (first | lia | omega)) ?_)
  all_goals first
    | exact ok_or_self ha hc
end Mine.Internal

end
section
open PySem PySem.W PyProof.Rows PySem.Calls
set_option Elab.async false
set_option tactic.hygienic false
set_option maxRecDepth 100000
set_option maxHeartbeats 4000000
set_option linter.all false
set_option backward.match.sparseCases false
set_option bootstrap.genMatcherCode false
namespace Mine.Internal
theorem vc_xor_rule_xor_rk (V : List Int) (F : Fcs) (hcn : Con V F) (i : Nat) (v : Int) (ha : Opd.wf V.length (.r i)) (hb : Opd.wf V.length (.k v)) (σ : Sg) : Vc 9 nn207.1 nb207.1 prR [.str (O2.nm .xor), .lst [Opd.d (.r i), Opd.d (.k v)], .fac F.d] σ (RP V (.two .xor (.r i) (.k v)) σ) := by
  have hb' : 0 ≤ v ∧ v < 4294967296 := hb
  unfold Vc
  repeat' ((first | change @Bool.rec (fun _ => Prop) _ _ _ | change RP _ _ _ _ _ | change CT _ _ _ _ _ | change And _ _ | change WM _ _ _ | change Ok _ _ _ | conv => whnf); first
    | refine WIf.off (by with_reducible assumption) ?_
    | (refine wif2 rfl (fun e => ?_) (fun hc => ?_); focus (subst e; rcases x with (xk | xr) <;> rcases y with (yk | yr)))
    | refine wif1n rfl ?_
    | refine WIf.mk (fun hc => ?_) (fun hc => ?_)
    | refine wm_fac hcn (fun o x y hf => ?_) (fun o x hf => ?_) (fun w s hf => ?_) (fun off hf => ?_) (fun off hf => ?_) (fun hf => ?_)
    | exact hK _ rfl
    | exact RP.none
    | refine RP.some rfl rfl ?_
    | refine And.intro (by first | decide | (first | lia | omega)) ?_)
  all_goals first
    | exact ok_xor_0 ha hc
    | exact ok_xor_m hcn ha hc
    | exact ok_xor_xor hcn hb hf
theorem vc_xor_rule_xor_rr (V : List Int) (F : Fcs) (hcn : Con V F) (i : Nat) (j : Nat) (ha : Opd.wf V.length (.r i)) (hb : Opd.wf V.length (.r j)) (σ : Sg) : Vc 9 nn207.1 nb207.1 prR [.str (O2.nm .xor), .lst [Opd.d (.r i), Opd.d (.r j)], .fac F.d] σ (RP V (.two .xor (.r i) (.r j)) σ) := by
  unfold Vc
  repeat' ((first | change @Bool.rec (fun _ => Prop) _ _ _ | change RP _ _ _ _ _ | change CT _ _ _ _ _ | change And _ _ | change WM _ _ _ | change Ok _ _ _ | conv => whnf); first
    | (refine wif2 rfl (fun e => ?_) (fun hc => ?_); focus (subst e; rcases x with (xk | xr) <;> rcases y with (yk | yr)))
    | refine wif1n rfl ?_
    | refine WIf.mk (fun hc => ?_) (fun hc => ?_)
    | refine wm_fac hcn (fun o x y hf => ?_) (fun o x hf => ?_) (fun w s hf => ?_) (fun off hf => ?_) (fun off hf => ?_) (fun hf => ?_)
    | refine loop2 (fun K' hK => ?_) (fun K' hK => ?_) ?_
    | exact hK _ rfl
    | exact RP.none
    | refine RP.some rfl rfl ?_
    | refine And.intro (by first | decide | (first | lia | omega)) ?_)
  all_goals first
    | exact ok_xor_self rfl hc
    | exact ok_xor_r1 hcn ha hf hc
    | exact ok_xor_r2 hcn ha hf hc (by assumption)
    | exact ok_xor_r1' hcn hb hf hc
    | exact ok_xor_r2' hcn hb hf hc (by assumption)
    | exact ok_xor_r2 hcn ha hf rfl hc
    | exact ok_xor_r2' hcn hb hf rfl hc
end Mine.Internal

end
section
open PySem PySem.W PyProof.Rows PySem.Calls
set_option Elab.async false
set_option tactic.hygienic false
set_option maxRecDepth 100000
set_option maxHeartbeats 4000000
set_option linter.all false
set_option backward.match.sparseCases false
set_option bootstrap.genMatcherCode false
namespace Mine.Internal
theorem vc_shift_rule_shl_kk (V : List Int) (F : Fcs) (hcn : Con V F) (u : Int) (v : Int) (ha : Opd.wf V.length (.k u)) (hb : Opd.wf V.length (.k v)) (hw : 31 < v) (σ : Sg) : Vc 9 nn214.1 nb214.1 prR [.str (O2.nm .shl), .lst [Opd.d (.k u), Opd.d (.k v)], .fac F.d] σ (RP V (.two .shl (.k u) (.k v)) σ) := by
  have ha' : 0 ≤ u ∧ u < 4294967296 := ha
  have hb' : 0 ≤ v ∧ v < 4294967296 := hb
  unfold Vc
  repeat' ((first | change @Bool.rec (fun _ => Prop) _ _ _ | change RP _ _ _ _ _ | change CT _ _ _ _ _ | change And _ _ | change WM _ _ _ | change Ok _ _ _ | conv => whnf); first
    | refine WIf.mk (fun hc => ?_) (fun hc => ?_)
    | exact RP.none
    | refine RP.some rfl rfl ?_
    | refine And.intro (by first | decide | (first | lia | omega)) ?_)
  all_goals first
    | exact sh_0 (by simp) rfl rfl hc
    | exact (kk_sh hw (by assumption)).elim
theorem vc_shift_rule_shl_kr (V : List Int) (F : Fcs) (hcn : Con V F) (u : Int) (j : Nat) (ha : Opd.wf V.length (.k u)) (hb : Opd.wf V.length (.r j)) (σ : Sg) : Vc 9 nn214.1 nb214.1 prR [.str (O2.nm .shl), .lst [Opd.d (.k u), Opd.d (.r j)], .fac F.d] σ (RP V (.two .shl (.k u) (.r j)) σ) := by
  have ha' : 0 ≤ u ∧ u < 4294967296 := ha
  unfold Vc
  repeat' ((first | change @Bool.rec (fun _ => Prop) _ _ _ | change RP _ _ _ _ _ | change CT _ _ _ _ _ | change And _ _ | change WM _ _ _ | change Ok _ _ _ | conv => whnf); first
    | refine WIf.mk (fun hc => ?_) (fun hc => ?_)
    | exact RP.none
    | refine RP.some rfl rfl ?_
    | refine And.intro (by first | decide | (first | lia | omega)) ?_)
  all_goals first
    | exact sh_0 (by simp) rfl rfl hc
theorem vc_shift_rule_shl_rk (V : List Int) (F : Fcs) (hcn : Con V F) (i : Nat) (v : Int) (ha : Opd.wf V.length (.r i)) (hb : Opd.wf V.length (.k v)) (σ : Sg) : Vc 9 nn214.1 nb214.1 prR [.str (O2.nm .shl), .lst [Opd.d (.r i), Opd.d (.k v)], .fac F.d] σ (RP V (.two .shl (.r i) (.k v)) σ) := by
  have hb' : 0 ≤ v ∧ v < 4294967296 := hb
  unfold Vc
  repeat' ((first | change @Bool.rec (fun _ => Prop) _ _ _ | change RP _ _ _ _ _ | change CT _ _ _ _ _ | change And _ _ | change WM _ _ _ | change Ok _ _ _ | conv => whnf); first
    | refine WIf.off (by with_reducible assumption) ?_
    | (refine wif2 rfl (fun e => ?_) (fun hc => ?_); focus (subst e; rcases x with (xk | xr) <;> rcases y with (yk | yr)))
    | refine wif1n rfl ?_
    | refine WIf.mk (fun hc => ?_) (fun hc => ?_)
    | refine wm_fac hcn (fun o x y hf => ?_) (fun o x hf => ?_) (fun w s hf => ?_) (fun off hf => ?_) (fun off hf => ?_) (fun hf => ?_)
    | exact RP.none
    | refine RP.some rfl rfl ?_
    | refine And.intro (by first | decide | (first | lia | omega)) ?_)
  all_goals first
    | exact sh_1 (by simp) ha hcn hc
    | exact ok_shl_shl hcn hb hf (by assumption) (by assumption) hc
    | exact ok_shl_big rfl hcn hb hf (by assumption) (by assumption) hc
theorem vc_shift_rule_shl_rr (V : List Int) (F : Fcs) (hcn : Con V F) (i : Nat) (j : Nat) (ha : Opd.wf V.length (.r i)) (hb : Opd.wf V.length (.r j)) (σ : Sg) : Vc 9 nn214.1 nb214.1 prR [.str (O2.nm .shl), .lst [Opd.d (.r i), Opd.d (.r j)], .fac F.d] σ (RP V (.two .shl (.r i) (.r j)) σ) := by
  unfold Vc
  repeat' ((first | change @Bool.rec (fun _ => Prop) _ _ _ | change RP _ _ _ _ _ | change CT _ _ _ _ _ | change And _ _ | change WM _ _ _ | change Ok _ _ _ | conv => whnf); first
    | exact RP.none
    | refine And.intro (by first | decide | (first | lia | omega)) ?_)
  all_goals first
    | exact ok_sar_shr ha hb hcn h1 hc
theorem vc_shift_rule_shr_kk (V : List Int) (F : Fcs) (hcn : Con V F) (u : Int) (v : Int) (ha : Opd.wf V.length (.k u)) (hb : Opd.wf V.length (.k v)) (hw : 31 < v) (σ : Sg) : Vc 9 nn214.1 nb214.1 prR [.str (O2.nm .shr), .lst [Opd.d (.k u), Opd.d (.k v)], .fac F.d] σ (RP V (.two .shr (.k u) (.k v)) σ) := by
  have ha' : 0 ≤ u ∧ u < 4294967296 := ha
  have hb' : 0 ≤ v ∧ v < 4294967296 := hb
  unfold Vc
  repeat' ((first | change @Bool.rec (fun _ => Prop) _ _ _ | change RP _ _ _ _ _ | change CT _ _ _ _ _ | change And _ _ | change WM _ _ _ | change Ok _ _ _ | conv => whnf); first
    | refine WIf.mk (fun hc => ?_) (fun hc => ?_)
    | exact RP.none
    | refine RP.some rfl rfl ?_
    | refine And.intro (by first | decide | (first | lia | omega)) ?_)
  all_goals first
    | exact sh_0 (by simp) rfl rfl hc
    | exact (kk_sh hw (by assumption)).elim
theorem vc_shift_rule_shr_kr (V : List Int) (F : Fcs) (hcn : Con V F) (u : Int) (j : Nat) (ha : Opd.wf V.length (.k u)) (hb : Opd.wf V.length (.r j)) (σ : Sg) : Vc 9 nn214.1 nb214.1 prR [.str (O2.nm .shr), .lst [Opd.d (.k u), Opd.d (.r j)], .fac F.d] σ (RP V (.two .shr (.k u) (.r j)) σ) := by
  have ha' : 0 ≤ u ∧ u < 4294967296 := ha
  unfold Vc
  repeat' ((first | change @Bool.rec (fun _ => Prop) _ _ _ | change RP _ _ _ _ _ | change CT _ _ _ _ _ | change And _ _ | change WM _ _ _ | change Ok _ _ _ | conv => whnf); first
    | refine WIf.mk (fun hc => ?_) (fun hc => ?_)
    | exact RP.none
    | refine RP.some rfl rfl ?_
    | refine And.intro (by first | decide | (first | lia | omega)) ?_)
  all_goals first
    | exact sh_0 (by simp) rfl rfl hc
theorem vc_shift_rule_shr_rk (V : List Int) (F : Fcs) (hcn : Con V F) (i : Nat) (v : Int) (ha : Opd.wf V.length (.r i)) (hb : Opd.wf V.length (.k v)) (σ : Sg) : Vc 9 nn214.1 nb214.1 prR [.str (O2.nm .shr), .lst [Opd.d (.r i), Opd.d (.k v)], .fac F.d] σ (RP V (.two .shr (.r i) (.k v)) σ) := by
  have hb' : 0 ≤ v ∧ v < 4294967296 := hb
  unfold Vc
  repeat' ((first | change @Bool.rec (fun _ => Prop) _ _ _ | change RP _ _ _ _ _ | change CT _ _ _ _ _ | change And _ _ | change WM _ _ _ | change Ok _ _ _ | conv => whnf); first
    | refine WIf.off (by with_reducible assumption) ?_
    | (refine wif2 rfl (fun e => ?_) (fun hc => ?_); focus (subst e; rcases x with (xk | xr) <;> rcases y with (yk | yr)))
    | refine wif1n rfl ?_
    | refine WIf.mk (fun hc => ?_) (fun hc => ?_)
    | refine wm_fac hcn (fun o x y hf => ?_) (fun o x hf => ?_) (fun w s hf => ?_) (fun off hf => ?_) (fun off hf => ?_) (fun hf => ?_)
    | exact RP.none
    | refine RP.some rfl rfl ?_
    | refine And.intro (by first | decide | (first | lia | omega)) ?_)
  all_goals first
    | exact sh_1 (by simp) ha hcn hc
    | exact ok_shr_shr hcn hb hf (by assumption) (by assumption) hc
    | exact ok_shr_big rfl hcn hb hf (by assumption) (by assumption) hc
theorem vc_shift_rule_shr_rr (V : List Int) (F : Fcs) (hcn : Con V F) (i : Nat) (j : Nat) (ha : Opd.wf V.length (.r i)) (hb : Opd.wf V.length (.r j)) (σ : Sg) : Vc 9 nn214.1 nb214.1 prR [.str (O2.nm .shr), .lst [Opd.d (.r i), Opd.d (.r j)], .fac F.d] σ (RP V (.two .shr (.r i) (.r j)) σ) := by
  unfold Vc
  repeat' ((first | change @Bool.rec (fun _ => Prop) _ _ _ | change RP _ _ _ _ _ | change CT _ _ _ _ _ | change And _ _ | change WM _ _ _ | change Ok _ _ _ | conv => whnf); first
    | exact RP.none
    | refine And.intro (by first | decide | (first | lia | omega)) ?_)
  all_goals first
    | exact ok_sar_shr ha hb hcn h1 hc
theorem vc_shift_rule_sar_kk (V : List Int) (F : Fcs) (hcn : Con V F) (u : Int) (v : Int) (ha : Opd.wf V.length (.k u)) (hb : Opd.wf V.length (.k v)) (hw : 31 < v) (σ : Sg) : Vc 9 nn214.1 nb214.1 prR [.str (O2.nm .sar), .lst [Opd.d (.k u), Opd.d (.k v)], .fac F.d] σ (RP V (.two .sar (.k u) (.k v)) σ) := by
  have ha' : 0 ≤ u ∧ u < 4294967296 := ha
  have hb' : 0 ≤ v ∧ v < 4294967296 := hb
  unfold Vc
  repeat' ((first | change @Bool.rec (fun _ => Prop) _ _ _ | change RP _ _ _ _ _ | change CT _ _ _ _ _ | change And _ _ | change WM _ _ _ | change Ok _ _ _ | conv => whnf); first
    | refine WIf.mk (fun hc => ?_) (fun hc => ?_)
    | exact RP.none
    | refine RP.some rfl rfl ?_
    | refine CT.span (V := V) (F := F) (a := .r _) rfl hcn (by assumption) (fun lo hi h1 h2 h3 h4 => ?_)
    | refine CT.span (V := V) (F := F) (a := .k _) rfl hcn (by assumption) (fun lok hik k1 k2 k3 k4 => ?_)
    | refine And.intro (by first | decide | (first | lia | omega)) ?_)
  all_goals first
    | exact sh_0 (by simp) rfl rfl hc
    | exact (kk_sh hw (by assumption)).elim
theorem vc_shift_rule_sar_kr (V : List Int) (F : Fcs) (hcn : Con V F) (u : Int) (j : Nat) (ha : Opd.wf V.length (.k u)) (hb : Opd.wf V.length (.r j)) (σ : Sg) : Vc 9 nn214.1 nb214.1 prR [.str (O2.nm .sar), .lst [Opd.d (.k u), Opd.d (.r j)], .fac F.d] σ (RP V (.two .sar (.k u) (.r j)) σ) := by
  have ha' : 0 ≤ u ∧ u < 4294967296 := ha
  unfold Vc
  repeat' ((first | change @Bool.rec (fun _ => Prop) _ _ _ | change RP _ _ _ _ _ | change CT _ _ _ _ _ | change And _ _ | change WM _ _ _ | change Ok _ _ _ | conv => whnf); first
    | refine WIf.mk (fun hc => ?_) (fun hc => ?_)
    | exact RP.none
    | refine RP.some rfl rfl ?_
    | refine And.intro (by first | decide | (first | lia | omega)) ?_)
  all_goals first
    | exact sh_0 (by simp) rfl rfl hc
theorem vc_shift_rule_sar_rk (V : List Int) (F : Fcs) (hcn : Con V F) (i : Nat) (v : Int) (ha : Opd.wf V.length (.r i)) (hb : Opd.wf V.length (.k v)) (σ : Sg) : Vc 9 nn214.1 nb214.1 prR [.str (O2.nm .sar), .lst [Opd.d (.r i), Opd.d (.k v)], .fac F.d] σ (RP V (.two .sar (.r i) (.k v)) σ) := by
  have hb' : 0 ≤ v ∧ v < 4294967296 := hb
  unfold Vc
  repeat' ((first | change @Bool.rec (fun _ => Prop) _ _ _ | change RP _ _ _ _ _ | change CT _ _ _ _ _ | change And _ _ | change WM _ _ _ | change Ok _ _ _ | conv => whnf); first
    | refine WIf.off (by with_reducible assumption) ?_
    | (refine wif2 rfl (fun e => ?_) (fun hc => ?_); focus (subst e; rcases x with (xk | xr) <;> rcases y with (yk | yr)))
    | refine wif1n rfl ?_
    | refine WIf.mk (fun hc => ?_) (fun hc => ?_)
    | refine wm_fac hcn (fun o x y hf => ?_) (fun o x hf => ?_) (fun w s hf => ?_) (fun off hf => ?_) (fun off hf => ?_) (fun hf => ?_)
    | exact RP.none
    | refine RP.some rfl rfl ?_
    | refine CT.span (V := V) (F := F) (a := .r _) rfl hcn (by assumption) (fun lo hi h1 h2 h3 h4 => ?_)
    | refine CT.span (V := V) (F := F) (a := .k _) rfl hcn (by assumption) (fun lok hik k1 k2 k3 k4 => ?_)
    | refine And.intro (by first | decide | (first | lia | omega)) ?_)
  all_goals first
    | exact sh_1 (by simp) ha hcn hc
    | exact ok_sar_sar hcn hb hf (by assumption) (by assumption) hc
    | exact ok_sar_big rfl hcn hb hf (by assumption) (by assumption) hc
    | exact ok_sar_shr ha hb hcn h1 hc
theorem vc_shift_rule_sar_rr (V : List Int) (F : Fcs) (hcn : Con V F) (i : Nat) (j : Nat) (ha : Opd.wf V.length (.r i)) (hb : Opd.wf V.length (.r j)) (σ : Sg) : Vc 9 nn214.1 nb214.1 prR [.str (O2.nm .sar), .lst [Opd.d (.r i), Opd.d (.r j)], .fac F.d] σ (RP V (.two .sar (.r i) (.r j)) σ) := by
  unfold Vc
  repeat' ((first | change @Bool.rec (fun _ => Prop) _ _ _ | change RP _ _ _ _ _ | change CT _ _ _ _ _ | change And _ _ | change WM _ _ _ | change Ok _ _ _ | conv => whnf); first
    | exact RP.none
    | refine And.intro (by first | decide | (first | lia | omega)) ?_)
  all_goals first
    | exact ok_sar_shr ha hb hcn h1 hc
end Mine.Internal

end
section
open PySem PySem.W PyProof.Rows PySem.Calls
set_option Elab.async false
set_option tactic.hygienic false
set_option maxRecDepth 100000
set_option maxHeartbeats 4000000
set_option linter.all false
set_option backward.match.sparseCases false
set_option bootstrap.genMatcherCode false
namespace Mine.Internal
theorem vc_less_rule_lt_kr (V : List Int) (F : Fcs) (hcn : Con V F) (u : Int) (j : Nat) (ha : Opd.wf V.length (.k u)) (hb : Opd.wf V.length (.r j)) (σ : Sg) : Vc 9 nn221.1 nb221.1 prR [.str (O2.nm .lt), .lst [Opd.d (.k u), Opd.d (.r j)], .fac F.d] σ (RP V (.two .lt (.k u) (.r j)) σ) := by
  have ha' : 0 ≤ u ∧ u < 4294967296 := ha
  unfold Vc
  repeat' ((conv => whnf); first
    | refine WIf.mk (fun hc => ?_) (fun hc => ?_)
    | exact RP.none
    | refine RP.some rfl rfl ?_
    | refine CT.span (V := V) (F := F) (a := .r _) rfl hcn (by assumption) (fun lo hi h1 h2 h3 h4 => ?_)
    | refine CT.span (V := V) (F := F) (a := .k _) rfl hcn (by assumption) (fun lok hik k1 k2 k3 k4 => ?_)
    | refine And.intro (by first | decide | (first | lia | omega)) ?_)
  all_goals first
    | exact ok_lt_t rfl (by assumption) (by assumption) hc
    | exact ok_lt_f rfl (by assumption) (by assumption) hc
theorem vc_less_rule_lt_rk (V : List Int) (F : Fcs) (hcn : Con V F) (i : Nat) (v : Int) (ha : Opd.wf V.length (.r i)) (hb : Opd.wf V.length (.k v)) (σ : Sg) : Vc 9 nn221.1 nb221.1 prR [.str (O2.nm .lt), .lst [Opd.d (.r i), Opd.d (.k v)], .fac F.d] σ (RP V (.two .lt (.r i) (.k v)) σ) := by
  have hb' : 0 ≤ v ∧ v < 4294967296 := hb
  unfold Vc
  repeat' ((conv => whnf); first
    | refine WIf.mk (fun hc => ?_) (fun hc => ?_)
    | exact RP.none
    | refine RP.some rfl rfl ?_
    | refine CT.span (V := V) (F := F) (a := .r _) rfl hcn (by assumption) (fun lo hi h1 h2 h3 h4 => ?_)
    | refine CT.span (V := V) (F := F) (a := .k _) rfl hcn (by assumption) (fun lok hik k1 k2 k3 k4 => ?_)
    | refine And.intro (by first | decide | (first | lia | omega)) ?_)
  all_goals first
    | exact ok_lt_t rfl (by assumption) (by assumption) hc
    | exact ok_lt_f rfl (by assumption) (by assumption) hc
theorem vc_less_rule_lt_rr (V : List Int) (F : Fcs) (hcn : Con V F) (i : Nat) (j : Nat) (ha : Opd.wf V.length (.r i)) (hb : Opd.wf V.length (.r j)) (σ : Sg) : Vc 9 nn221.1 nb221.1 prR [.str (O2.nm .lt), .lst [Opd.d (.r i), Opd.d (.r j)], .fac F.d] σ (RP V (.two .lt (.r i) (.r j)) σ) := by
  unfold Vc
  repeat' ((conv => whnf); first
    | refine WIf.mk (fun hc => ?_) (fun hc => ?_)
    | exact RP.none
    | refine RP.some rfl rfl ?_
    | refine CT.span (V := V) (F := F) (a := .r _) rfl hcn (by assumption) (fun lo hi h1 h2 h3 h4 => ?_)
    | refine CT.span (V := V) (F := F) (a := .k _) rfl hcn (by assumption) (fun lok hik k1 k2 k3 k4 => ?_)
    | refine And.intro (by first | decide | (first | lia | omega)) ?_)
  all_goals first
    | exact cmp_self (by simp) rfl hc
    | exact ok_lt_t rfl (by assumption) (by assumption) hc
    | exact ok_lt_f rfl (by assumption) (by assumption) hc
theorem vc_less_rule_ltu_kr (V : List Int) (F : Fcs) (hcn : Con V F) (u : Int) (j : Nat) (ha : Opd.wf V.length (.k u)) (hb : Opd.wf V.length (.r j)) (σ : Sg) : Vc 9 nn221.1 nb221.1 prR [.str (O2.nm .ltu), .lst [Opd.d (.k u), Opd.d (.r j)], .fac F.d] σ (RP V (.two .ltu (.k u) (.r j)) σ) := by
  have ha' : 0 ≤ u ∧ u < 4294967296 := ha
  unfold Vc
  repeat' ((conv => whnf); first
    | refine WIf.mk (fun hc => ?_) (fun hc => ?_)
    | exact RP.none
    | refine RP.some rfl rfl ?_
    | refine CT.span (V := V) (F := F) (a := .r _) rfl hcn (by assumption) (fun lo hi h1 h2 h3 h4 => ?_)
    | refine CT.span (V := V) (F := F) (a := .k _) rfl hcn (by assumption) (fun lok hik k1 k2 k3 k4 => ?_)
    | refine And.intro (by first | decide | (first | lia | omega)) ?_)
  all_goals first
    | exact ok_ltu_t rfl ha hb hcn (by assumption) (by assumption) (by assumption) (by assumption) (by assumption) hc
    | exact ok_ltu_f rfl ha hb hcn (by assumption) (by assumption) (by assumption) (by assumption) (by assumption) hc
    | exact ok_ltu_am rfl hb hcn rfl hc
    | exact ok_ltu_a0 rfl hb hcn rfl hc
theorem vc_less_rule_ltu_rk (V : List Int) (F : Fcs) (hcn : Con V F) (i : Nat) (v : Int) (ha : Opd.wf V.length (.r i)) (hb : Opd.wf V.length (.k v)) (σ : Sg) : Vc 9 nn221.1 nb221.1 prR [.str (O2.nm .ltu), .lst [Opd.d (.r i), Opd.d (.k v)], .fac F.d] σ (RP V (.two .ltu (.r i) (.k v)) σ) := by
  have hb' : 0 ≤ v ∧ v < 4294967296 := hb
  unfold Vc
  repeat' ((conv => whnf); first
    | refine WIf.mk (fun hc => ?_) (fun hc => ?_)
    | exact RP.none
    | refine RP.some rfl rfl ?_
    | refine CT.span (V := V) (F := F) (a := .r _) rfl hcn (by assumption) (fun lo hi h1 h2 h3 h4 => ?_)
    | refine CT.span (V := V) (F := F) (a := .k _) rfl hcn (by assumption) (fun lok hik k1 k2 k3 k4 => ?_)
    | refine And.intro (by first | decide | (first | lia | omega)) ?_)
  all_goals first
    | exact ok_ltu_t rfl ha hb hcn (by assumption) (by assumption) (by assumption) (by assumption) (by assumption) hc
    | exact ok_ltu_f rfl ha hb hcn (by assumption) (by assumption) (by assumption) (by assumption) (by assumption) hc
    | exact ok_ltu_b0 rfl ha hcn rfl hc
    | exact ok_ltu_b1 rfl ha hcn rfl hc
theorem vc_less_rule_ltu_rr (V : List Int) (F : Fcs) (hcn : Con V F) (i : Nat) (j : Nat) (ha : Opd.wf V.length (.r i)) (hb : Opd.wf V.length (.r j)) (σ : Sg) : Vc 9 nn221.1 nb221.1 prR [.str (O2.nm .ltu), .lst [Opd.d (.r i), Opd.d (.r j)], .fac F.d] σ (RP V (.two .ltu (.r i) (.r j)) σ) := by
  unfold Vc
  repeat' ((conv => whnf); first
    | refine WIf.mk (fun hc => ?_) (fun hc => ?_)
    | exact RP.none
    | refine RP.some rfl rfl ?_
    | refine CT.span (V := V) (F := F) (a := .r _) rfl hcn (by assumption) (fun lo hi h1 h2 h3 h4 => ?_)
    | refine CT.span (V := V) (F := F) (a := .k _) rfl hcn (by assumption) (fun lok hik k1 k2 k3 k4 => ?_)
    | refine And.intro (by first | decide | (first | lia | omega)) ?_)
  all_goals first
    | exact cmp_self (by simp) rfl hc
    | exact ok_ltu_t rfl ha hb hcn (by assumption) (by assumption) (by assumption) (by assumption) (by assumption) hc
    | exact ok_ltu_f rfl ha hb hcn (by assumption) (by assumption) (by assumption) (by assumption) (by assumption) hc
end Mine.Internal

end
section
open PySem PySem.W PyProof.Rows PySem.Calls
set_option Elab.async false
set_option tactic.hygienic false
set_option maxRecDepth 100000
set_option maxHeartbeats 4000000
set_option linter.all false
set_option backward.match.sparseCases false
set_option bootstrap.genMatcherCode false
namespace Mine.Internal
theorem vc_equal_rule_eq_rk (V : List Int) (F : Fcs) (hcn : Con V F) (i : Nat) (v : Int) (ha : Opd.wf V.length (.r i)) (hb : Opd.wf V.length (.k v)) (σ : Sg) : Vc 9 nn235.1 nb235.1 prR [.str (O2.nm .eq), .lst [Opd.d (.r i), Opd.d (.k v)], .fac F.d] σ (RP V (.two .eq (.r i) (.k v)) σ) := by
  have hb' : 0 ≤ v ∧ v < 4294967296 := hb
  unfold Vc
  repeat' ((conv => whnf); first
    | refine WIf.on (by with_reducible assumption) ?_
    | refine WIf.off (by with_reducible assumption) ?_
    | (refine wif2 rfl (fun e => ?_) (fun hc => ?_); focus (subst e; rcases x with (xk | xr) <;> rcases y with (yk | yr)))
    | refine wif2n rfl ?_
    | (refine wif1 rfl (fun e => ?_) (fun hc => ?_); focus (subst e; rcases x with (xk | xr)))
    | refine wif1n rfl ?_
    | (refine wifin2 (fun p hc e => ?_) (fun hc => ?_); focus (cases p <;> first | exact absurd hc Bool.false_ne_true | (subst e; rcases x with (xk | xr) <;> rcases y with (yk | yr))))
    | (refine wifin1 (fun p hc e => ?_) (fun hc => ?_); focus (cases p <;> first | exact absurd hc Bool.false_ne_true | (subst e; rcases x with (xk | xr))))
    | (refine wifany2 (fun p hc e => ?_) (fun hc => ?_); focus (cases p <;> first | exact absurd hc Bool.false_ne_true | (subst e; rcases x with (xk | xr) <;> rcases y with (yk | yr))))
    | (refine wifany1 (fun p hc e => ?_) (fun hc => ?_); focus (cases p <;> first | exact absurd hc Bool.false_ne_true | (subst e; rcases x with (xk | xr))))
    | refine WIf.mk (fun hc => ?_) (fun hc => ?_)
    | refine wm_fac hcn (fun o x y hf => ?_) (fun o x hf => ?_) (fun w s hf => ?_) (fun off hf => ?_) (fun off hf => ?_) (fun hf => ?_)
    | exact RP.none
    | refine RP.some rfl rfl ?_
    | refine CT.span (V := V) (F := F) (a := .r _) rfl hcn (by assumption) (fun lo hi h1 h2 h3 h4 => ?_)
    | refine CT.span (V := V) (F := F) (a := .k _) rfl hcn (by assumption) (fun lok hik k1 k2 k3 k4 => ?_)
    | refine And.intro (by first | decide | (first | lia | omega)) ?_)
  all_goals first
    | exact ok_eq_ap1 rfl ha hb hcn (by assumption) (by assumption) hc
    | exact ok_eq_ap2 rfl ha hb hcn (by assumption) (by assumption) hc
    | exact en_add (by simp [EN]) hcn hb hf
    | exact en_xor (by simp [EN]) hcn hb hf
    | exact en_sub (by simp [EN]) hcn hf hc
    | exact en_xor0 (by simp [EN]) hcn hf hc
    | exact en_neg (by simp [EN]) hcn hb hf
    | exact en_not (by simp [EN]) hcn hb hf
    | exact tr_same_eq rfl hcn hf hb (h4 _ _ _ _ rfl hf rfl) (k3 _ rfl) (by assumption) (by assumption) hc
    | exact tr_eq_e hcn hf hb (h4 _ _ _ _ rfl hf rfl) (k3 _ rfl) (by assumption) (by assumption) hc
    | exact tr_eq_n hcn hf hb (h4 _ _ _ _ rfl hf rfl) (k3 _ rfl) (by assumption) (by assumption) hc
theorem vc_equal_rule_eq_rr (V : List Int) (F : Fcs) (hcn : Con V F) (i : Nat) (j : Nat) (ha : Opd.wf V.length (.r i)) (hb : Opd.wf V.length (.r j)) (σ : Sg) : Vc 9 nn235.1 nb235.1 prR [.str (O2.nm .eq), .lst [Opd.d (.r i), Opd.d (.r j)], .fac F.d] σ (RP V (.two .eq (.r i) (.r j)) σ) := by
  unfold Vc
  repeat' ((conv => whnf); first
    | refine WIf.on (by with_reducible assumption) ?_
    | refine WIf.mk (fun hc => ?_) (fun hc => ?_)
    | refine wm_fac hcn (fun o x y hf => ?_) (fun o x hf => ?_) (fun w s hf => ?_) (fun off hf => ?_) (fun off hf => ?_) (fun hf => ?_)
    | exact RP.none
    | refine RP.some rfl rfl ?_
    | refine CT.span (V := V) (F := F) (a := .r _) rfl hcn (by assumption) (fun lo hi h1 h2 h3 h4 => ?_)
    | refine CT.span (V := V) (F := F) (a := .k _) rfl hcn (by assumption) (fun lok hik k1 k2 k3 k4 => ?_)
    | refine And.intro (by first | decide | (first | lia | omega)) ?_)
  all_goals first
    | exact eq_self rfl hc
    | exact ok_eq_ap1 rfl ha hb hcn (by assumption) (by assumption) hc
    | exact ok_eq_ap2 rfl ha hb hcn (by assumption) (by assumption) hc
theorem vc_equal_rule_ne_rk (V : List Int) (F : Fcs) (hcn : Con V F) (i : Nat) (v : Int) (ha : Opd.wf V.length (.r i)) (hb : Opd.wf V.length (.k v)) (σ : Sg) : Vc 9 nn235.1 nb235.1 prR [.str (O2.nm .ne), .lst [Opd.d (.r i), Opd.d (.k v)], .fac F.d] σ (RP V (.two .ne (.r i) (.k v)) σ) := by
  have hb' : 0 ≤ v ∧ v < 4294967296 := hb
  unfold Vc
  repeat' ((conv => whnf); first
    | refine WIf.on (by with_reducible assumption) ?_
    | refine WIf.off (by with_reducible assumption) ?_
    | (refine wif2 rfl (fun e => ?_) (fun hc => ?_); focus (subst e; rcases x with (xk | xr) <;> rcases y with (yk | yr)))
    | refine wif2n rfl ?_
    | (refine wif1 rfl (fun e => ?_) (fun hc => ?_); focus (subst e; rcases x with (xk | xr)))
    | refine wif1n rfl ?_
    | (refine wifin2 (fun p hc e => ?_) (fun hc => ?_); focus (cases p <;> first | exact absurd hc Bool.false_ne_true | (subst e; rcases x with (xk | xr) <;> rcases y with (yk | yr))))
    | (refine wifin1 (fun p hc e => ?_) (fun hc => ?_); focus (cases p <;> first | exact absurd hc Bool.false_ne_true | (subst e; rcases x with (xk | xr))))
    | (refine wifany2 (fun p hc e => ?_) (fun hc => ?_); focus (cases p <;> first | exact absurd hc Bool.false_ne_true | (subst e; rcases x with (xk | xr) <;> rcases y with (yk | yr))))
    | (refine wifany1 (fun p hc e => ?_) (fun hc => ?_); focus (cases p <;> first | exact absurd hc Bool.false_ne_true | (subst e; rcases x with (xk | xr))))
    | refine WIf.mk (fun hc => ?_) (fun hc => ?_)
    | refine wm_fac hcn (fun o x y hf => ?_) (fun o x hf => ?_) (fun w s hf => ?_) (fun off hf => ?_) (fun off hf => ?_) (fun hf => ?_)
    | exact RP.none
    | refine RP.some rfl rfl ?_
    | refine CT.span (V := V) (F := F) (a := .r _) rfl hcn (by assumption) (fun lo hi h1 h2 h3 h4 => ?_)
    | refine CT.span (V := V) (F := F) (a := .k _) rfl hcn (by assumption) (fun lok hik k1 k2 k3 k4 => ?_)
    | refine And.intro (by first | decide | (first | lia | omega)) ?_)
  all_goals first
    | exact ok_ne_ap1 rfl ha hb hcn (by assumption) (by assumption) hc
    | exact ok_ne_ap2 rfl ha hb hcn (by assumption) (by assumption) hc
    | exact en_add (by simp [EN]) hcn hb hf
    | exact en_xor (by simp [EN]) hcn hb hf
    | exact en_sub (by simp [EN]) hcn hf hc
    | exact en_xor0 (by simp [EN]) hcn hf hc
    | exact en_neg (by simp [EN]) hcn hb hf
    | exact en_not (by simp [EN]) hcn hb hf
    | exact tr_same_ne rfl hcn hf hb (h4 _ _ _ _ rfl hf rfl) (k3 _ rfl) (by assumption) (by assumption) hc
    | exact tr_ne_e hcn hf hc
    | exact tr_ne_n hcn hf hc
    | exact tr_ne_0 rfl rfl hcn hf (by assumption)
theorem vc_equal_rule_ne_rr (V : List Int) (F : Fcs) (hcn : Con V F) (i : Nat) (j : Nat) (ha : Opd.wf V.length (.r i)) (hb : Opd.wf V.length (.r j)) (σ : Sg) : Vc 9 nn235.1 nb235.1 prR [.str (O2.nm .ne), .lst [Opd.d (.r i), Opd.d (.r j)], .fac F.d] σ (RP V (.two .ne (.r i) (.r j)) σ) := by
  unfold Vc
  repeat' ((conv => whnf); first
    | refine WIf.on (by with_reducible assumption) ?_
    | refine WIf.mk (fun hc => ?_) (fun hc => ?_)
    | refine wm_fac hcn (fun o x y hf => ?_) (fun o x hf => ?_) (fun w s hf => ?_) (fun off hf => ?_) (fun off hf => ?_) (fun hf => ?_)
    | exact RP.none
    | refine RP.some rfl rfl ?_
    | refine CT.span (V := V) (F := F) (a := .r _) rfl hcn (by assumption) (fun lo hi h1 h2 h3 h4 => ?_)
    | refine CT.span (V := V) (F := F) (a := .k _) rfl hcn (by assumption) (fun lok hik k1 k2 k3 k4 => ?_)
    | refine And.intro (by first | decide | (first | lia | omega)) ?_)
  all_goals first
    | exact cmp_self (by simp) rfl hc
    | exact ok_ne_ap1 rfl ha hb hcn (by assumption) (by assumption) hc
    | exact ok_ne_ap2 rfl ha hb hcn (by assumption) (by assumption) hc
end Mine.Internal

end
section
open PySem PySem.W PyProof.Rows PySem.Calls
set_option Elab.async false
set_option tactic.hygienic false
set_option maxRecDepth 100000
set_option maxHeartbeats 4000000
set_option linter.all false
set_option backward.match.sparseCases false
set_option bootstrap.genMatcherCode false
namespace Mine.Internal
theorem vc_neg_rule_neg_r (V : List Int) (F : Fcs) (hcn : Con V F) (i : Nat) (ha : Opd.wf V.length (.r i)) (σ : Sg) : Vc 9 nn242.1 nb242.1 prR [.str (O1.nm .neg), .lst [Opd.d (.r i)], .fac F.d] σ (RP V (.one .neg (.r i)) σ) := by
  unfold Vc
  repeat' ((first | change @Bool.rec (fun _ => Prop) _ _ _ | change RP _ _ _ _ _ | change CT _ _ _ _ _ | change And _ _ | change WM _ _ _ | change Ok _ _ _ | conv => whnf); first
    | (refine wif2 rfl (fun e => ?_) (fun hc => ?_); focus (subst e; rcases x with (xk | xr) <;> rcases y with (yk | yr)))
    | refine wif2n rfl ?_
    | (refine wif1 rfl (fun e => ?_) (fun hc => ?_); focus (subst e; rcases x with (xk | xr)))
    | refine wif1n rfl ?_
    | refine wm_fac hcn (fun o x y hf => ?_) (fun o x hf => ?_) (fun w s hf => ?_) (fun off hf => ?_) (fun off hf => ?_) (fun hf => ?_)
    | exact RP.none
    | refine RP.some rfl rfl ?_
    | refine And.intro (by first | decide | (first | lia | omega)) ?_)
  all_goals first
    | exact ok_neg_neg hcn hf
    | exact ok_neg_sub hcn hf
end Mine.Internal

end
section
open PySem PySem.W PyProof.Rows PySem.Calls
set_option Elab.async false
set_option tactic.hygienic false
set_option maxRecDepth 100000
set_option maxHeartbeats 4000000
set_option linter.all false
set_option backward.match.sparseCases false
set_option bootstrap.genMatcherCode false
namespace Mine.Internal
theorem vc_not_rule_not_r (V : List Int) (F : Fcs) (hcn : Con V F) (i : Nat) (ha : Opd.wf V.length (.r i)) (σ : Sg) : Vc 9 nn249.1 nb249.1 prR [.str (O1.nm .not), .lst [Opd.d (.r i)], .fac F.d] σ (RP V (.one .not (.r i)) σ) := by
  unfold Vc
  repeat' ((first | change @Bool.rec (fun _ => Prop) _ _ _ | change RP _ _ _ _ _ | change CT _ _ _ _ _ | change And _ _ | change WM _ _ _ | change Ok _ _ _ | conv => whnf); first
    | refine wif2n rfl ?_
    | (refine wif1 rfl (fun e => ?_) (fun hc => ?_); focus (subst e; rcases x with (xk | xr)))
    | refine wm_fac hcn (fun o x y hf => ?_) (fun o x hf => ?_) (fun w s hf => ?_) (fun off hf => ?_) (fun off hf => ?_) (fun hf => ?_)
    | exact RP.none
    | refine RP.some rfl rfl ?_
    | refine And.intro (by first | decide | (first | lia | omega)) ?_)
  all_goals first
    | exact ok_not_not hcn hf
end Mine.Internal

end
section
open PySem PySem.W PyProof.Rows PySem.Calls
set_option Elab.async false
set_option tactic.hygienic false
set_option maxRecDepth 100000
set_option maxHeartbeats 4000000
set_option linter.all false
set_option backward.match.sparseCases false
set_option bootstrap.genMatcherCode false
namespace Mine.Internal
theorem vc_widen_rule_sx8_r (V : List Int) (F : Fcs) (hcn : Con V F) (i : Nat) (ha : Opd.wf V.length (.r i)) (σ : Sg) : Vc 9 nn263.1 nb263.1 prR [.str (O1.nm .sx8), .lst [Opd.d (.r i)], .fac F.d] σ (RP V (.one .sx8 (.r i)) σ) := by
  unfold Vc
  repeat' ((first | change @Bool.rec (fun _ => Prop) _ _ _ | change RP _ _ _ _ _ | change CT _ _ _ _ _ | change And _ _ | change WM _ _ _ | change Ok _ _ _ | conv => whnf); first
    | refine WIf.mk (fun hc => ?_) (fun hc => ?_)
    | exact RP.none
    | refine RP.some rfl rfl ?_
    | refine CT.span (V := V) (F := F) (a := .r _) rfl hcn (by assumption) (fun lo hi h1 h2 h3 h4 => ?_)
    | refine CT.span (V := V) (F := F) (a := .k _) rfl hcn (by assumption) (fun lok hik k1 k2 k3 k4 => ?_)
    | refine CT.inner (V := V) (F := F) (i := _) rfl hcn (by assumption) (by first | exact Or.inl rfl | exact Or.inr rfl) ?_ (fun z h1 h2 h3 => ?_) (fun z h1 h2 h3 => ?_)
    | refine And.intro (by first | decide | (first | lia | omega)) ?_)
  all_goals first
    | exact ok_wid8s ha hcn h1 h2 (by assumption) (by assumption)
    | exact ok_wid_in (by simp) ha h1 h2 h3
theorem vc_widen_rule_sx16_r (V : List Int) (F : Fcs) (hcn : Con V F) (i : Nat) (ha : Opd.wf V.length (.r i)) (σ : Sg) : Vc 9 nn263.1 nb263.1 prR [.str (O1.nm .sx16), .lst [Opd.d (.r i)], .fac F.d] σ (RP V (.one .sx16 (.r i)) σ) := by
  unfold Vc
  repeat' ((first | change @Bool.rec (fun _ => Prop) _ _ _ | change RP _ _ _ _ _ | change CT _ _ _ _ _ | change And _ _ | change WM _ _ _ | change Ok _ _ _ | conv => whnf); first
    | refine WIf.mk (fun hc => ?_) (fun hc => ?_)
    | exact RP.none
    | refine RP.some rfl rfl ?_
    | refine CT.span (V := V) (F := F) (a := .r _) rfl hcn (by assumption) (fun lo hi h1 h2 h3 h4 => ?_)
    | refine CT.span (V := V) (F := F) (a := .k _) rfl hcn (by assumption) (fun lok hik k1 k2 k3 k4 => ?_)
    | refine CT.inner (V := V) (F := F) (i := _) rfl hcn (by assumption) (by first | exact Or.inl rfl | exact Or.inr rfl) ?_ (fun z h1 h2 h3 => ?_) (fun z h1 h2 h3 => ?_)
    | refine And.intro (by first | decide | (first | lia | omega)) ?_)
  all_goals first
    | exact ok_wid16s ha hcn h1 h2 (by assumption) (by assumption)
    | exact ok_wid_in (by simp) ha h1 h2 h3
theorem vc_widen_rule_zx8_r (V : List Int) (F : Fcs) (hcn : Con V F) (i : Nat) (ha : Opd.wf V.length (.r i)) (σ : Sg) : Vc 9 nn263.1 nb263.1 prR [.str (O1.nm .zx8), .lst [Opd.d (.r i)], .fac F.d] σ (RP V (.one .zx8 (.r i)) σ) := by
  unfold Vc
  repeat' ((first | change @Bool.rec (fun _ => Prop) _ _ _ | change RP _ _ _ _ _ | change CT _ _ _ _ _ | change And _ _ | change WM _ _ _ | change Ok _ _ _ | conv => whnf); first
    | refine WIf.mk (fun hc => ?_) (fun hc => ?_)
    | exact RP.none
    | refine RP.some rfl rfl ?_
    | refine CT.span (V := V) (F := F) (a := .r _) rfl hcn (by assumption) (fun lo hi h1 h2 h3 h4 => ?_)
    | refine CT.span (V := V) (F := F) (a := .k _) rfl hcn (by assumption) (fun lok hik k1 k2 k3 k4 => ?_)
    | refine CT.inner (V := V) (F := F) (i := _) rfl hcn (by assumption) (by first | exact Or.inl rfl | exact Or.inr rfl) ?_ (fun z h1 h2 h3 => ?_) (fun z h1 h2 h3 => ?_)
    | refine And.intro (by first | decide | (first | lia | omega)) ?_)
  all_goals first
    | exact ok_wid8z ha hcn h1 h2 (by assumption) (by assumption)
    | exact ok_wid_in (by simp) ha h1 h2 h3
theorem vc_widen_rule_zx16_r (V : List Int) (F : Fcs) (hcn : Con V F) (i : Nat) (ha : Opd.wf V.length (.r i)) (σ : Sg) : Vc 9 nn263.1 nb263.1 prR [.str (O1.nm .zx16), .lst [Opd.d (.r i)], .fac F.d] σ (RP V (.one .zx16 (.r i)) σ) := by
  unfold Vc
  repeat' ((first | change @Bool.rec (fun _ => Prop) _ _ _ | change RP _ _ _ _ _ | change CT _ _ _ _ _ | change And _ _ | change WM _ _ _ | change Ok _ _ _ | conv => whnf); first
    | refine WIf.mk (fun hc => ?_) (fun hc => ?_)
    | exact RP.none
    | refine RP.some rfl rfl ?_
    | refine CT.span (V := V) (F := F) (a := .r _) rfl hcn (by assumption) (fun lo hi h1 h2 h3 h4 => ?_)
    | refine CT.span (V := V) (F := F) (a := .k _) rfl hcn (by assumption) (fun lok hik k1 k2 k3 k4 => ?_)
    | refine CT.inner (V := V) (F := F) (i := _) rfl hcn (by assumption) (by first | exact Or.inl rfl | exact Or.inr rfl) ?_ (fun z h1 h2 h3 => ?_) (fun z h1 h2 h3 => ?_)
    | refine And.intro (by first | decide | (first | lia | omega)) ?_)
  all_goals first
    | exact ok_wid16z ha hcn h1 h2 (by assumption) (by assumption)
    | exact ok_wid_in (by simp) ha h1 h2 h3
end Mine.Internal

end
section
open PySem PySem.W PyProof.Rows
set_option Elab.async false
set_option tactic.hygienic false
set_option backward.match.sparseCases false
set_option bootstrap.genMatcherCode false
namespace Mine.Internal
theorem ldk {w v : Int} {s : Bool} (h : w = 4) : loadOk w s v := by subst h; exact ⟨(fun e => by cases e), (fun e => by cases e)⟩
theorem ext_s {m x : Int} (hm : m = 256 ∨ m = 65536) : - (m / 2) ≤ sg (ext true m x) ∧ sg (ext true m x) ≤ m / 2 - 1 := by
  rcases hm with rfl | rfl <;> exact sg_ext_s (by decide) (by decide) rfl
theorem ext_zle {m x : Int} (h0 : 0 < m) (h1 : m ≤ 65536) : ext false m x ≤ m - 1 := by
  have a := Int.emod_nonneg x (Int.ne_of_gt h0)
  have b := Int.emod_lt_of_pos x h0
  show wr (x % m) ≤ _
  rw [wr_id ⟨a, by (first | lia | omega)⟩]; exact Int.le_sub_one_of_lt b
theorem ext_z {m x : Int} (hm : m = 256 ∨ m = 65536) : ext false m x ≤ m - 1 := by
  rcases hm with rfl | rfl <;> exact ext_zle (by decide) (by decide)
theorem ld_s8 {x : Int} : loadOk 1 true (sem1 .sx8 x) := ⟨fun _ => ⟨fun _ => ext_s (.inl rfl), (fun e => by cases e)⟩, (fun e => by cases e)⟩
theorem ld_z8 {x : Int} : loadOk 1 false (sem1 .zx8 x) := ⟨fun _ => ⟨(fun e => by cases e), fun _ => ext_z (.inl rfl)⟩, (fun e => by cases e)⟩
theorem ld_s16 {x : Int} : loadOk 2 true (sem1 .sx16 x) := ⟨(fun e => by cases e), fun _ => ⟨fun _ => ext_s (.inr rfl), (fun e => by cases e)⟩⟩
theorem ld_z16 {x : Int} : loadOk 2 false (sem1 .zx16 x) := ⟨(fun e => by cases e), fun _ => ⟨(fun e => by cases e), fun _ => ext_z (.inr rfl)⟩⟩
section
variable {V : List Int} {σ : Sg}
theorem sok_load {w v : Int} {s : Bool} (h1 : w = 1 ∨ w = 2 ∨ w = 4) (h2 : W32 v) (h3 : loadOk w s v) : Sok V (.load w s) v :=
  ⟨h1, .inr (.inr (.inl ⟨_, _, rfl⟩)), (fun _ _ e => by cases e; exact h3), (fun h => (h _ _ rfl).elim), h2⟩
theorem sok_name {y : Bool} {off z : Int} (hz : (Shp.name y off).sem V = some z) (hw : W32 z) : Sok V (.name y off) z :=
  ⟨trivial, .inr (.inr (.inr ⟨_, _, rfl⟩)), (fun _ _ e => by cases e), (fun _ => hz), hw⟩
theorem sok_one {o : O1} {a : Opd} {z : Int} (ha : a.wf V.length) (hz : (Shp.one o a).sem V = some z) (hw : W32 z) : Sok V (.one o a) z :=
  ⟨ha, .inr (.inl ⟨_, _, rfl⟩), (fun _ _ e => by cases e), (fun _ => hz), hw⟩
theorem sok_two {o : O2} {a b : Opd} {z : Int} (ha : a.wf V.length) (hb : b.wf V.length) (hz : (Shp.two o a b).sem V = some z) (hw : W32 z) : Sok V (.two o a b) z :=
  ⟨⟨ha, hb⟩, .inl ⟨_, _, _, rfl⟩, (fun _ _ e => by cases e), (fun _ => hz), hw⟩
theorem k3_wf {m : Nat} : Opd.wf m (.k 3) := ⟨by decide, by decide⟩
end
end Mine.Internal

end
section
open PySem PySem.W PyProof.Rows
set_option Elab.async false
set_option tactic.hygienic false
set_option backward.match.sparseCases false
set_option bootstrap.genMatcherCode false
namespace Mine.Internal
inductive NoP (σ : Sg) : D → Sg → Prop
  | mk : NoP σ .none σ
inductive TrP (σ : Sg) : D → Sg → Prop
  | mk : TrP σ (.bool true) σ
inductive FdP (V : List Int) (s : Shp) (i : Nat) : D → Prop
  | none : i ≤ 23 → FdP V s i .none
  | some {s' : Shp} : s'.wf V.length → (∀ w g, s' ≠ .load w g) → (∀ x, s.sem V = Option.some x → s'.sem V = Option.some x) → s'.phi + i ≤ 22 → FdP V s i s'.d
theorem FdP.first {V : List Int} {s : Shp} {d : D} (h : BtP V s d) (hs : s.phi ≤ 23) : FdP V s 0 d := by
  cases h with
  | none => exact .none (by (first | lia | omega))
  | some h => exact .some h.wf h.nl h.sem (by have := h.phi; (first | lia | omega))
theorem FdP.next {V : List Int} {s s' : Shp} {i : Nat} {d : D} (hsem : ∀ x, s.sem V = Option.some x → s'.sem V = Option.some x) (hp : s'.phi + i ≤ 22) (h : BtP V s' d) : FdP V s (i + 1) d := by
  cases h with
  | none => exact .none (by (first | lia | omega))
  | some h => exact .some h.wf h.nl (fun x e => h.sem x (hsem x e)) (by have := h.phi; (first | lia | omega))
theorem FdP.end {V : List Int} {s : Shp} {d : D} {P : Prop} (h : FdP V s 24 d) : P := by
  cases h with
  | none h => (first | lia | omega)
  | some _ _ _ h => (first | lia | omega)
theorem ne_self (z : Int) : (!eqb (.lst [.int z]) (.lst [.int z])) = false := by simp [eqb, eqbs]
theorem rk_le {V : List Int} {a : Opd} (hl : V.length ≤ 9) (h : a.wf V.length) : a.rk ≤ 6 := by
  cases a with
  | k v => exact Nat.zero_le _
  | r i => have : i < V.length := h; show i - 2 ≤ 6; (first | lia | omega)
theorem phi_le {V : List Int} {s : Shp} (hl : V.length ≤ 9) (h : s.wf V.length) : s.phi ≤ 23 := by
  cases s with
  | two o a b =>
    have ha := rk_le hl h.1
    have hb := rk_le hl h.2
    cases a <;> cases b <;> cases o <;> simp only [Shp.phi, phi2, Opd.rk] at * <;> (first | lia | omega)
  | one o a =>
    have ha := rk_le hl (show a.wf V.length from h)
    cases a <;> cases o <;> simp only [Shp.phi, phi1, Opd.rk] at * <;> (first | lia | omega)
  | load w s => exact Nat.zero_le _
  | name y off => exact Nat.zero_le _
  | const a => exact Nat.zero_le _
  | copy a => cases a <;> simp only [Shp.phi] <;> (first | lia | omega)
noncomputable def isDv (o : O2) : Bool := match o with
  | .div => true
  | .divu => true
  | .rem => true
  | .remu => true
  | _ => false
noncomputable def dDivs : List D := [.str ⟨#[100, 105, 118]⟩, .str ⟨#[100, 105, 118, 117]⟩, .str ⟨#[114, 101, 109]⟩, .str ⟨#[114, 101, 109, 117]⟩]
theorem dv_no {o : O2} (h : isDv o = false) : anyEq (.str o.nm) dDivs = false := by cases o <;> first | rfl | cases h
theorem dv_yes {o : O2} (h : isDv o = true) : anyEq (.str o.nm) dDivs = true := by cases o <;> first | rfl | cases h
theorem dv_one (o : O1) : anyEq (.str o.nm) dDivs = false := by cases o <;> rfl
theorem dv_or {o : O2} (h : isDv o = true) : o = .div ∨ o = .divu ∨ o = .rem ∨ o = .remu := by cases o <;> first | (cases h; done) | simp
theorem not0 {b : Opd} (h : b ≠ .k 0) : eqb b.d (.tup [.str ⟨#[107]⟩, .int (Int.ofNat 0)]) = false := by
  cases b with
  | r i => rfl
  | k v =>
    have : v ≠ 0 := fun e => h (by rw [e])
    simp [eqb, eqbs, Opd.d, this]
end Mine.Internal

end
section
open PySem PySem.W PyProof.Rows PySem.Calls
set_option Elab.async false
set_option tactic.hygienic false
set_option maxRecDepth 100000
set_option maxHeartbeats 4000000
set_option linter.all false
set_option backward.match.sparseCases false
set_option bootstrap.genMatcherCode false
namespace Mine.Internal
theorem vc_rule0_div (V : List Int) (F : Fcs) (a : Opd) (σ : Sg) : Vc 9 nn186.1 nb186.1 [⟨#[111, 112]⟩, ⟨#[97, 114, 103, 115]⟩, ⟨#[102, 97, 99, 116, 115]⟩] [.str (O2.nm .div), .lst [a.d, Opd.d (.k 0)], .fac F.d] σ (NoP σ) := by
  unfold Vc
  repeat' ((first | change @Bool.rec (fun _ => Prop) _ _ _ | change RP _ _ _ _ _ | change CT _ _ _ _ _ | change And _ _ | change WM _ _ _ | change Ok _ _ _ | conv => whnf); first
    | exact NoP.mk
    | refine And.intro (by first | decide | (first | lia | omega)) ?_)
theorem vc_better0_div_k (V : List Int) (F : Fcs) (hcn : Con V F) (u : Int) (ha : Opd.wf V.length (.k u)) (σ : Sg) : Vc 12 nn272.1 nb272.1 [⟨#[111, 112]⟩, ⟨#[97, 114, 103, 115]⟩, ⟨#[102, 97, 99, 116, 115]⟩] [.str (O2.nm .div), .lst [Opd.d (.k u), Opd.d (.k 0)], .fac F.d] σ (NoP σ) := by
  unfold Vc
  repeat' ((first | change @Bool.rec (fun _ => Prop) _ _ _ | change RP _ _ _ _ _ | change CT _ _ _ _ _ | change And _ _ | change WM _ _ _ | change Ok _ _ _ | conv => whnf); first
    | exact NoP.mk
    | refine CT.rule0 (V := V) (F := F) (o := .div) (a := (.k u)) rfl hcn ha (by simp) ?_
    | refine ForI.mk ?_
    | refine And.intro (by first | decide | (first | lia | omega)) ?_)
theorem vc_better0_div_r (V : List Int) (F : Fcs) (hcn : Con V F) (i : Nat) (ha : Opd.wf V.length (.r i)) (σ : Sg) : Vc 12 nn272.1 nb272.1 [⟨#[111, 112]⟩, ⟨#[97, 114, 103, 115]⟩, ⟨#[102, 97, 99, 116, 115]⟩] [.str (O2.nm .div), .lst [Opd.d (.r i), Opd.d (.k 0)], .fac F.d] σ (NoP σ) := by
  unfold Vc
  repeat' ((first | change @Bool.rec (fun _ => Prop) _ _ _ | change RP _ _ _ _ _ | change CT _ _ _ _ _ | change And _ _ | change WM _ _ _ | change Ok _ _ _ | conv => whnf); first
    | exact NoP.mk
    | refine CT.rule0 (V := V) (F := F) (o := .div) (a := (.r i)) rfl hcn ha (by simp) ?_
    | refine ForI.mk ?_
    | refine And.intro (by first | decide | (first | lia | omega)) ?_)
theorem vc_rule0_rem (V : List Int) (F : Fcs) (a : Opd) (σ : Sg) : Vc 9 nn186.1 nb186.1 [⟨#[111, 112]⟩, ⟨#[97, 114, 103, 115]⟩, ⟨#[102, 97, 99, 116, 115]⟩] [.str (O2.nm .rem), .lst [a.d, Opd.d (.k 0)], .fac F.d] σ (NoP σ) := by
  unfold Vc
  repeat' ((first | change @Bool.rec (fun _ => Prop) _ _ _ | change RP _ _ _ _ _ | change CT _ _ _ _ _ | change And _ _ | change WM _ _ _ | change Ok _ _ _ | conv => whnf); first
    | exact NoP.mk
    | refine And.intro (by first | decide | (first | lia | omega)) ?_)
theorem vc_better0_rem_k (V : List Int) (F : Fcs) (hcn : Con V F) (u : Int) (ha : Opd.wf V.length (.k u)) (σ : Sg) : Vc 12 nn272.1 nb272.1 [⟨#[111, 112]⟩, ⟨#[97, 114, 103, 115]⟩, ⟨#[102, 97, 99, 116, 115]⟩] [.str (O2.nm .rem), .lst [Opd.d (.k u), Opd.d (.k 0)], .fac F.d] σ (NoP σ) := by
  unfold Vc
  repeat' ((first | change @Bool.rec (fun _ => Prop) _ _ _ | change RP _ _ _ _ _ | change CT _ _ _ _ _ | change And _ _ | change WM _ _ _ | change Ok _ _ _ | conv => whnf); first
    | exact NoP.mk
    | refine CT.rule0 (V := V) (F := F) (o := .rem) (a := (.k u)) rfl hcn ha (by simp) ?_
    | refine ForI.mk ?_
    | refine And.intro (by first | decide | (first | lia | omega)) ?_)
theorem vc_better0_rem_r (V : List Int) (F : Fcs) (hcn : Con V F) (i : Nat) (ha : Opd.wf V.length (.r i)) (σ : Sg) : Vc 12 nn272.1 nb272.1 [⟨#[111, 112]⟩, ⟨#[97, 114, 103, 115]⟩, ⟨#[102, 97, 99, 116, 115]⟩] [.str (O2.nm .rem), .lst [Opd.d (.r i), Opd.d (.k 0)], .fac F.d] σ (NoP σ) := by
  unfold Vc
  repeat' ((first | change @Bool.rec (fun _ => Prop) _ _ _ | change RP _ _ _ _ _ | change CT _ _ _ _ _ | change And _ _ | change WM _ _ _ | change Ok _ _ _ | conv => whnf); first
    | exact NoP.mk
    | refine CT.rule0 (V := V) (F := F) (o := .rem) (a := (.r i)) rfl hcn ha (by simp) ?_
    | refine ForI.mk ?_
    | refine And.intro (by first | decide | (first | lia | omega)) ?_)
theorem vc_rule0_divu (V : List Int) (F : Fcs) (a : Opd) (σ : Sg) : Vc 9 nn179.1 nb179.1 [⟨#[111, 112]⟩, ⟨#[97, 114, 103, 115]⟩, ⟨#[102, 97, 99, 116, 115]⟩] [.str (O2.nm .divu), .lst [a.d, Opd.d (.k 0)], .fac F.d] σ (NoP σ) := by
  unfold Vc
  repeat' ((first | change @Bool.rec (fun _ => Prop) _ _ _ | change RP _ _ _ _ _ | change CT _ _ _ _ _ | change And _ _ | change WM _ _ _ | change Ok _ _ _ | conv => whnf); first
    | exact NoP.mk
    | refine And.intro (by first | decide | (first | lia | omega)) ?_)
theorem vc_better0_divu_k (V : List Int) (F : Fcs) (hcn : Con V F) (u : Int) (ha : Opd.wf V.length (.k u)) (σ : Sg) : Vc 12 nn272.1 nb272.1 [⟨#[111, 112]⟩, ⟨#[97, 114, 103, 115]⟩, ⟨#[102, 97, 99, 116, 115]⟩] [.str (O2.nm .divu), .lst [Opd.d (.k u), Opd.d (.k 0)], .fac F.d] σ (NoP σ) := by
  unfold Vc
  repeat' ((first | change @Bool.rec (fun _ => Prop) _ _ _ | change RP _ _ _ _ _ | change CT _ _ _ _ _ | change And _ _ | change WM _ _ _ | change Ok _ _ _ | conv => whnf); first
    | exact NoP.mk
    | refine CT.rule0 (V := V) (F := F) (o := .divu) (a := (.k u)) rfl hcn ha (by simp) ?_
    | refine ForI.mk ?_
    | refine And.intro (by first | decide | (first | lia | omega)) ?_)
theorem vc_better0_divu_r (V : List Int) (F : Fcs) (hcn : Con V F) (i : Nat) (ha : Opd.wf V.length (.r i)) (σ : Sg) : Vc 12 nn272.1 nb272.1 [⟨#[111, 112]⟩, ⟨#[97, 114, 103, 115]⟩, ⟨#[102, 97, 99, 116, 115]⟩] [.str (O2.nm .divu), .lst [Opd.d (.r i), Opd.d (.k 0)], .fac F.d] σ (NoP σ) := by
  unfold Vc
  repeat' ((first | change @Bool.rec (fun _ => Prop) _ _ _ | change RP _ _ _ _ _ | change CT _ _ _ _ _ | change And _ _ | change WM _ _ _ | change Ok _ _ _ | conv => whnf); first
    | exact NoP.mk
    | refine CT.rule0 (V := V) (F := F) (o := .divu) (a := (.r i)) rfl hcn ha (by simp) ?_
    | refine ForI.mk ?_
    | refine And.intro (by first | decide | (first | lia | omega)) ?_)
theorem vc_rule0_remu (V : List Int) (F : Fcs) (a : Opd) (σ : Sg) : Vc 9 nn179.1 nb179.1 [⟨#[111, 112]⟩, ⟨#[97, 114, 103, 115]⟩, ⟨#[102, 97, 99, 116, 115]⟩] [.str (O2.nm .remu), .lst [a.d, Opd.d (.k 0)], .fac F.d] σ (NoP σ) := by
  unfold Vc
  repeat' ((first | change @Bool.rec (fun _ => Prop) _ _ _ | change RP _ _ _ _ _ | change CT _ _ _ _ _ | change And _ _ | change WM _ _ _ | change Ok _ _ _ | conv => whnf); first
    | exact NoP.mk
    | refine And.intro (by first | decide | (first | lia | omega)) ?_)
theorem vc_better0_remu_k (V : List Int) (F : Fcs) (hcn : Con V F) (u : Int) (ha : Opd.wf V.length (.k u)) (σ : Sg) : Vc 12 nn272.1 nb272.1 [⟨#[111, 112]⟩, ⟨#[97, 114, 103, 115]⟩, ⟨#[102, 97, 99, 116, 115]⟩] [.str (O2.nm .remu), .lst [Opd.d (.k u), Opd.d (.k 0)], .fac F.d] σ (NoP σ) := by
  unfold Vc
  repeat' ((first | change @Bool.rec (fun _ => Prop) _ _ _ | change RP _ _ _ _ _ | change CT _ _ _ _ _ | change And _ _ | change WM _ _ _ | change Ok _ _ _ | conv => whnf); first
    | exact NoP.mk
    | refine CT.rule0 (V := V) (F := F) (o := .remu) (a := (.k u)) rfl hcn ha (by simp) ?_
    | refine ForI.mk ?_
    | refine And.intro (by first | decide | (first | lia | omega)) ?_)
theorem vc_better0_remu_r (V : List Int) (F : Fcs) (hcn : Con V F) (i : Nat) (ha : Opd.wf V.length (.r i)) (σ : Sg) : Vc 12 nn272.1 nb272.1 [⟨#[111, 112]⟩, ⟨#[97, 114, 103, 115]⟩, ⟨#[102, 97, 99, 116, 115]⟩] [.str (O2.nm .remu), .lst [Opd.d (.r i), Opd.d (.k 0)], .fac F.d] σ (NoP σ) := by
  unfold Vc
  repeat' ((first | change @Bool.rec (fun _ => Prop) _ _ _ | change RP _ _ _ _ _ | change CT _ _ _ _ _ | change And _ _ | change WM _ _ _ | change Ok _ _ _ | conv => whnf); first
    | exact NoP.mk
    | refine CT.rule0 (V := V) (F := F) (o := .remu) (a := (.r i)) rfl hcn ha (by simp) ?_
    | refine ForI.mk ?_
    | refine And.intro (by first | decide | (first | lia | omega)) ?_)
end Mine.Internal

end
section
open PySem PySem.W PyProof.Rows PySem.Calls
set_option Elab.async false
set_option tactic.hygienic false
set_option maxRecDepth 100000
set_option maxHeartbeats 4000000
set_option linter.all false
set_option backward.match.sparseCases false
set_option bootstrap.genMatcherCode false
namespace Mine.Internal
theorem vc_better_add_kk (V : List Int) (F : Fcs) (hcn : Con V F) (u : Int) (v : Int) (ha : Opd.wf V.length (.k u)) (hb : Opd.wf V.length (.k v)) (σ : Sg) : Vc 12 nn272.1 nb272.1 prR [.str (O2.nm .add), .lst [Opd.d (.k u), Opd.d (.k v)], .fac F.d] σ (RP V (.two .add (.k u) (.k v)) σ) := by
  have ha' : 0 ≤ u ∧ u < 4294967296 := ha
  have hb' : 0 ≤ v ∧ v < 4294967296 := hb
  unfold Vc
  repeat' ((first | change @Bool.rec (fun _ => Prop) _ _ _ | change RP _ _ _ _ _ | change CT _ _ _ _ _ | change And _ _ | change WM _ _ _ | change Ok _ _ _ | conv => whnf); first
    | refine ForI.mk ?_
    | refine RP.some rfl rfl ?_
    | refine And.intro (by first | decide | (first | lia | omega) | (have hl : ¬ 31 < v := of_decide_eq_false hc; (first | lia | omega))) ?_)
  all_goals first
    | exact trivial
    | exact wk_add
theorem vc_better_add_kr (V : List Int) (F : Fcs) (hcn : Con V F) (u : Int) (j : Nat) (ha : Opd.wf V.length (.k u)) (hb : Opd.wf V.length (.r j)) (σ : Sg) : Vc 12 nn272.1 nb272.1 prR [.str (O2.nm .add), .lst [Opd.d (.k u), Opd.d (.r j)], .fac F.d] σ (RP V (.two .add (.k u) (.r j)) σ) := by
  have ha' : 0 ≤ u ∧ u < 4294967296 := ha
  unfold Vc
  repeat' ((first | change @Bool.rec (fun _ => Prop) _ _ _ | change RP _ _ _ _ _ | change CT _ _ _ _ _ | change And _ _ | change WM _ _ _ | change Ok _ _ _ | conv => whnf); first
    | refine ForI.mk ?_
    | refine RP.some rfl rfl ?_
    | refine And.intro (by first | decide | (first | lia | omega) | (have hl : ¬ 31 < v := of_decide_eq_false hc; (first | lia | omega))) ?_)
  all_goals first
    | exact trivial
    | exact ok_swap (by simp) ha hb
theorem vc_better_add_rk (V : List Int) (F : Fcs) (hcn : Con V F) (i : Nat) (v : Int) (ha : Opd.wf V.length (.r i)) (hb : Opd.wf V.length (.k v)) (σ : Sg) : Vc 12 nn272.1 nb272.1 prR [.str (O2.nm .add), .lst [Opd.d (.r i), Opd.d (.k v)], .fac F.d] σ (RP V (.two .add (.r i) (.k v)) σ) := by
  have hb' : 0 ≤ v ∧ v < 4294967296 := hb
  unfold Vc
  repeat' ((first | change @Bool.rec (fun _ => Prop) _ _ _ | change RP _ _ _ _ _ | change CT _ _ _ _ _ | change And _ _ | change WM _ _ _ | change Ok _ _ _ | conv => whnf); first
    | refine ForI.mk ?_
    | refine CT.rule (V := V) (F := F) (o := .add) (a := (.r i)) (b := (.k v)) rfl hcn (by assumption) (by assumption) ?_ (fun d h => h)
    | refine And.intro (by first | decide | (first | lia | omega) | (have hl : ¬ 31 < v := of_decide_eq_false hc; (first | lia | omega))) ?_)
  all_goals first
    | exact trivial
theorem vc_better_add_rr (V : List Int) (F : Fcs) (hcn : Con V F) (i : Nat) (j : Nat) (ha : Opd.wf V.length (.r i)) (hb : Opd.wf V.length (.r j)) (σ : Sg) : Vc 12 nn272.1 nb272.1 prR [.str (O2.nm .add), .lst [Opd.d (.r i), Opd.d (.r j)], .fac F.d] σ (RP V (.two .add (.r i) (.r j)) σ) := by
  unfold Vc
  repeat' ((first | change @Bool.rec (fun _ => Prop) _ _ _ | change RP _ _ _ _ _ | change CT _ _ _ _ _ | change And _ _ | change WM _ _ _ | change Ok _ _ _ | conv => whnf); first
    | refine ForI.mk ?_
    | refine CT.rule (V := V) (F := F) (o := .add) (a := (.r i)) (b := (.r j)) rfl hcn (by assumption) (by assumption) ?_ (fun d h => h)
    | refine And.intro (by first | decide | (first | lia | omega) | (have hl : ¬ 31 < v := of_decide_eq_false hc; (first | lia | omega))) ?_)
  all_goals first
    | exact trivial
theorem vc_better_sub_kk (V : List Int) (F : Fcs) (hcn : Con V F) (u : Int) (v : Int) (ha : Opd.wf V.length (.k u)) (hb : Opd.wf V.length (.k v)) (σ : Sg) : Vc 12 nn272.1 nb272.1 prR [.str (O2.nm .sub), .lst [Opd.d (.k u), Opd.d (.k v)], .fac F.d] σ (RP V (.two .sub (.k u) (.k v)) σ) := by
  have ha' : 0 ≤ u ∧ u < 4294967296 := ha
  have hb' : 0 ≤ v ∧ v < 4294967296 := hb
  unfold Vc
  repeat' ((first | change @Bool.rec (fun _ => Prop) _ _ _ | change RP _ _ _ _ _ | change CT _ _ _ _ _ | change And _ _ | change WM _ _ _ | change Ok _ _ _ | conv => whnf); first
    | refine ForI.mk ?_
    | refine RP.some rfl rfl ?_
    | refine And.intro (by first | decide | (first | lia | omega) | (have hl : ¬ 31 < v := of_decide_eq_false hc; (first | lia | omega))) ?_)
  all_goals first
    | exact trivial
    | exact wk_sub
theorem vc_better_sub_kr (V : List Int) (F : Fcs) (hcn : Con V F) (u : Int) (j : Nat) (ha : Opd.wf V.length (.k u)) (hb : Opd.wf V.length (.r j)) (σ : Sg) : Vc 12 nn272.1 nb272.1 prR [.str (O2.nm .sub), .lst [Opd.d (.k u), Opd.d (.r j)], .fac F.d] σ (RP V (.two .sub (.k u) (.r j)) σ) := by
  have ha' : 0 ≤ u ∧ u < 4294967296 := ha
  unfold Vc
  repeat' ((first | change @Bool.rec (fun _ => Prop) _ _ _ | change RP _ _ _ _ _ | change CT _ _ _ _ _ | change And _ _ | change WM _ _ _ | change Ok _ _ _ | conv => whnf); first
    | refine ForI.mk ?_
    | refine CT.rule (V := V) (F := F) (o := .sub) (a := (.k u)) (b := (.r j)) rfl hcn (by assumption) (by assumption) ?_ (fun d h => h)
    | refine And.intro (by first | decide | (first | lia | omega) | (have hl : ¬ 31 < v := of_decide_eq_false hc; (first | lia | omega))) ?_)
  all_goals first
    | exact trivial
theorem vc_better_sub_rk (V : List Int) (F : Fcs) (hcn : Con V F) (i : Nat) (v : Int) (ha : Opd.wf V.length (.r i)) (hb : Opd.wf V.length (.k v)) (σ : Sg) : Vc 12 nn272.1 nb272.1 prR [.str (O2.nm .sub), .lst [Opd.d (.r i), Opd.d (.k v)], .fac F.d] σ (RP V (.two .sub (.r i) (.k v)) σ) := by
  have hb' : 0 ≤ v ∧ v < 4294967296 := hb
  unfold Vc
  repeat' ((first | change @Bool.rec (fun _ => Prop) _ _ _ | change RP _ _ _ _ _ | change CT _ _ _ _ _ | change And _ _ | change WM _ _ _ | change Ok _ _ _ | conv => whnf); first
    | refine ForI.mk ?_
    | refine CT.rule (V := V) (F := F) (o := .sub) (a := (.r i)) (b := (.k v)) rfl hcn (by assumption) (by assumption) ?_ (fun d h => h)
    | refine And.intro (by first | decide | (first | lia | omega) | (have hl : ¬ 31 < v := of_decide_eq_false hc; (first | lia | omega))) ?_)
  all_goals first
    | exact trivial
theorem vc_better_sub_rr (V : List Int) (F : Fcs) (hcn : Con V F) (i : Nat) (j : Nat) (ha : Opd.wf V.length (.r i)) (hb : Opd.wf V.length (.r j)) (σ : Sg) : Vc 12 nn272.1 nb272.1 prR [.str (O2.nm .sub), .lst [Opd.d (.r i), Opd.d (.r j)], .fac F.d] σ (RP V (.two .sub (.r i) (.r j)) σ) := by
  unfold Vc
  repeat' ((first | change @Bool.rec (fun _ => Prop) _ _ _ | change RP _ _ _ _ _ | change CT _ _ _ _ _ | change And _ _ | change WM _ _ _ | change Ok _ _ _ | conv => whnf); first
    | refine ForI.mk ?_
    | refine CT.rule (V := V) (F := F) (o := .sub) (a := (.r i)) (b := (.r j)) rfl hcn (by assumption) (by assumption) ?_ (fun d h => h)
    | refine And.intro (by first | decide | (first | lia | omega) | (have hl : ¬ 31 < v := of_decide_eq_false hc; (first | lia | omega))) ?_)
  all_goals first
    | exact trivial
theorem vc_better_mul_kk (V : List Int) (F : Fcs) (hcn : Con V F) (u : Int) (v : Int) (ha : Opd.wf V.length (.k u)) (hb : Opd.wf V.length (.k v)) (σ : Sg) : Vc 12 nn272.1 nb272.1 prR [.str (O2.nm .mul), .lst [Opd.d (.k u), Opd.d (.k v)], .fac F.d] σ (RP V (.two .mul (.k u) (.k v)) σ) := by
  have ha' : 0 ≤ u ∧ u < 4294967296 := ha
  have hb' : 0 ≤ v ∧ v < 4294967296 := hb
  unfold Vc
  repeat' ((first | change @Bool.rec (fun _ => Prop) _ _ _ | change RP _ _ _ _ _ | change CT _ _ _ _ _ | change And _ _ | change WM _ _ _ | change Ok _ _ _ | conv => whnf); first
    | refine ForI.mk ?_
    | refine RP.some rfl rfl ?_
    | refine And.intro (by first | decide | (first | lia | omega) | (have hl : ¬ 31 < v := of_decide_eq_false hc; (first | lia | omega))) ?_)
  all_goals first
    | exact trivial
    | exact wk_mul
theorem vc_better_mul_kr (V : List Int) (F : Fcs) (hcn : Con V F) (u : Int) (j : Nat) (ha : Opd.wf V.length (.k u)) (hb : Opd.wf V.length (.r j)) (σ : Sg) : Vc 12 nn272.1 nb272.1 prR [.str (O2.nm .mul), .lst [Opd.d (.k u), Opd.d (.r j)], .fac F.d] σ (RP V (.two .mul (.k u) (.r j)) σ) := by
  have ha' : 0 ≤ u ∧ u < 4294967296 := ha
  unfold Vc
  repeat' ((first | change @Bool.rec (fun _ => Prop) _ _ _ | change RP _ _ _ _ _ | change CT _ _ _ _ _ | change And _ _ | change WM _ _ _ | change Ok _ _ _ | conv => whnf); first
    | refine ForI.mk ?_
    | refine RP.some rfl rfl ?_
    | refine And.intro (by first | decide | (first | lia | omega) | (have hl : ¬ 31 < v := of_decide_eq_false hc; (first | lia | omega))) ?_)
  all_goals first
    | exact trivial
    | exact ok_swap (by simp) ha hb
theorem vc_better_mul_rk (V : List Int) (F : Fcs) (hcn : Con V F) (i : Nat) (v : Int) (ha : Opd.wf V.length (.r i)) (hb : Opd.wf V.length (.k v)) (σ : Sg) : Vc 12 nn272.1 nb272.1 prR [.str (O2.nm .mul), .lst [Opd.d (.r i), Opd.d (.k v)], .fac F.d] σ (RP V (.two .mul (.r i) (.k v)) σ) := by
  have hb' : 0 ≤ v ∧ v < 4294967296 := hb
  unfold Vc
  repeat' ((first | change @Bool.rec (fun _ => Prop) _ _ _ | change RP _ _ _ _ _ | change CT _ _ _ _ _ | change And _ _ | change WM _ _ _ | change Ok _ _ _ | conv => whnf); first
    | refine ForI.mk ?_
    | refine CT.rule (V := V) (F := F) (o := .mul) (a := (.r i)) (b := (.k v)) rfl hcn (by assumption) (by assumption) ?_ (fun d h => h)
    | refine And.intro (by first | decide | (first | lia | omega) | (have hl : ¬ 31 < v := of_decide_eq_false hc; (first | lia | omega))) ?_)
  all_goals first
    | exact trivial
theorem vc_better_mul_rr (V : List Int) (F : Fcs) (hcn : Con V F) (i : Nat) (j : Nat) (ha : Opd.wf V.length (.r i)) (hb : Opd.wf V.length (.r j)) (σ : Sg) : Vc 12 nn272.1 nb272.1 prR [.str (O2.nm .mul), .lst [Opd.d (.r i), Opd.d (.r j)], .fac F.d] σ (RP V (.two .mul (.r i) (.r j)) σ) := by
  unfold Vc
  repeat' ((first | change @Bool.rec (fun _ => Prop) _ _ _ | change RP _ _ _ _ _ | change CT _ _ _ _ _ | change And _ _ | change WM _ _ _ | change Ok _ _ _ | conv => whnf); first
    | refine ForI.mk ?_
    | refine CT.rule (V := V) (F := F) (o := .mul) (a := (.r i)) (b := (.r j)) rfl hcn (by assumption) (by assumption) ?_ (fun d h => h)
    | refine And.intro (by first | decide | (first | lia | omega) | (have hl : ¬ 31 < v := of_decide_eq_false hc; (first | lia | omega))) ?_)
  all_goals first
    | exact trivial
theorem vc_better_and_kk (V : List Int) (F : Fcs) (hcn : Con V F) (u : Int) (v : Int) (ha : Opd.wf V.length (.k u)) (hb : Opd.wf V.length (.k v)) (σ : Sg) : Vc 12 nn272.1 nb272.1 prR [.str (O2.nm .and), .lst [Opd.d (.k u), Opd.d (.k v)], .fac F.d] σ (RP V (.two .and (.k u) (.k v)) σ) := by
  have ha' : 0 ≤ u ∧ u < 4294967296 := ha
  have hb' : 0 ≤ v ∧ v < 4294967296 := hb
  unfold Vc
  repeat' ((first | change @Bool.rec (fun _ => Prop) _ _ _ | change RP _ _ _ _ _ | change CT _ _ _ _ _ | change And _ _ | change WM _ _ _ | change Ok _ _ _ | conv => whnf); first
    | refine ForI.mk ?_
    | refine RP.some rfl rfl ?_
    | refine And.intro (by first | decide | (first | lia | omega) | (have hl : ¬ 31 < v := of_decide_eq_false hc; (first | lia | omega))) ?_)
  all_goals first
    | exact trivial
    | exact wk_and ha hb
theorem vc_better_and_kr (V : List Int) (F : Fcs) (hcn : Con V F) (u : Int) (j : Nat) (ha : Opd.wf V.length (.k u)) (hb : Opd.wf V.length (.r j)) (σ : Sg) : Vc 12 nn272.1 nb272.1 prR [.str (O2.nm .and), .lst [Opd.d (.k u), Opd.d (.r j)], .fac F.d] σ (RP V (.two .and (.k u) (.r j)) σ) := by
  have ha' : 0 ≤ u ∧ u < 4294967296 := ha
  unfold Vc
  repeat' ((first | change @Bool.rec (fun _ => Prop) _ _ _ | change RP _ _ _ _ _ | change CT _ _ _ _ _ | change And _ _ | change WM _ _ _ | change Ok _ _ _ | conv => whnf); first
    | refine ForI.mk ?_
    | refine RP.some rfl rfl ?_
    | refine And.intro (by first | decide | (first | lia | omega) | (have hl : ¬ 31 < v := of_decide_eq_false hc; (first | lia | omega))) ?_)
  all_goals first
    | exact trivial
    | exact ok_swap (by simp) ha hb
theorem vc_better_and_rk (V : List Int) (F : Fcs) (hcn : Con V F) (i : Nat) (v : Int) (ha : Opd.wf V.length (.r i)) (hb : Opd.wf V.length (.k v)) (σ : Sg) : Vc 12 nn272.1 nb272.1 prR [.str (O2.nm .and), .lst [Opd.d (.r i), Opd.d (.k v)], .fac F.d] σ (RP V (.two .and (.r i) (.k v)) σ) := by
  have hb' : 0 ≤ v ∧ v < 4294967296 := hb
  unfold Vc
  repeat' ((first | change @Bool.rec (fun _ => Prop) _ _ _ | change RP _ _ _ _ _ | change CT _ _ _ _ _ | change And _ _ | change WM _ _ _ | change Ok _ _ _ | conv => whnf); first
    | refine ForI.mk ?_
    | refine CT.rule (V := V) (F := F) (o := .and) (a := (.r i)) (b := (.k v)) rfl hcn (by assumption) (by assumption) ?_ (fun d h => h)
    | refine And.intro (by first | decide | (first | lia | omega) | (have hl : ¬ 31 < v := of_decide_eq_false hc; (first | lia | omega))) ?_)
  all_goals first
    | exact trivial
theorem vc_better_and_rr (V : List Int) (F : Fcs) (hcn : Con V F) (i : Nat) (j : Nat) (ha : Opd.wf V.length (.r i)) (hb : Opd.wf V.length (.r j)) (σ : Sg) : Vc 12 nn272.1 nb272.1 prR [.str (O2.nm .and), .lst [Opd.d (.r i), Opd.d (.r j)], .fac F.d] σ (RP V (.two .and (.r i) (.r j)) σ) := by
  unfold Vc
  repeat' ((first | change @Bool.rec (fun _ => Prop) _ _ _ | change RP _ _ _ _ _ | change CT _ _ _ _ _ | change And _ _ | change WM _ _ _ | change Ok _ _ _ | conv => whnf); first
    | refine ForI.mk ?_
    | refine CT.rule (V := V) (F := F) (o := .and) (a := (.r i)) (b := (.r j)) rfl hcn (by assumption) (by assumption) ?_ (fun d h => h)
    | refine And.intro (by first | decide | (first | lia | omega) | (have hl : ¬ 31 < v := of_decide_eq_false hc; (first | lia | omega))) ?_)
  all_goals first
    | exact trivial
end Mine.Internal

end
section
open PySem PySem.W PyProof.Rows PySem.Calls
set_option Elab.async false
set_option tactic.hygienic false
set_option maxRecDepth 100000
set_option maxHeartbeats 4000000
set_option linter.all false
set_option backward.match.sparseCases false
set_option bootstrap.genMatcherCode false
namespace Mine.Internal
theorem vc_better_or_kk (V : List Int) (F : Fcs) (hcn : Con V F) (u : Int) (v : Int) (ha : Opd.wf V.length (.k u)) (hb : Opd.wf V.length (.k v)) (σ : Sg) : Vc 12 nn272.1 nb272.1 prR [.str (O2.nm .or), .lst [Opd.d (.k u), Opd.d (.k v)], .fac F.d] σ (RP V (.two .or (.k u) (.k v)) σ) := by
  have ha' : 0 ≤ u ∧ u < 4294967296 := ha
  have hb' : 0 ≤ v ∧ v < 4294967296 := hb
  unfold Vc
  repeat' ((first | change @Bool.rec (fun _ => Prop) _ _ _ | change RP _ _ _ _ _ | change CT _ _ _ _ _ | change And _ _ | change WM _ _ _ | change Ok _ _ _ | conv => whnf); first
    | refine ForI.mk ?_
    | refine RP.some rfl rfl ?_
    | refine And.intro (by first | decide | (first | lia | omega) | (have hl : ¬ 31 < v := of_decide_eq_false hc; (first | lia | omega))) ?_)
  all_goals first
    | exact trivial
    | exact wk_or ha hb
theorem vc_better_or_kr (V : List Int) (F : Fcs) (hcn : Con V F) (u : Int) (j : Nat) (ha : Opd.wf V.length (.k u)) (hb : Opd.wf V.length (.r j)) (σ : Sg) : Vc 12 nn272.1 nb272.1 prR [.str (O2.nm .or), .lst [Opd.d (.k u), Opd.d (.r j)], .fac F.d] σ (RP V (.two .or (.k u) (.r j)) σ) := by
  have ha' : 0 ≤ u ∧ u < 4294967296 := ha
  unfold Vc
  repeat' ((first | change @Bool.rec (fun _ => Prop) _ _ _ | change RP _ _ _ _ _ | change CT _ _ _ _ _ | change And _ _ | change WM _ _ _ | change Ok _ _ _ | conv => whnf); first
    | refine ForI.mk ?_
    | refine RP.some rfl rfl ?_
    | refine And.intro (by first | decide | (first | lia | omega) | (have hl : ¬ 31 < v := of_decide_eq_false hc; (first | lia | omega))) ?_)
  all_goals first
    | exact trivial
    | exact ok_swap (by simp) ha hb
theorem vc_better_or_rk (V : List Int) (F : Fcs) (hcn : Con V F) (i : Nat) (v : Int) (ha : Opd.wf V.length (.r i)) (hb : Opd.wf V.length (.k v)) (σ : Sg) : Vc 12 nn272.1 nb272.1 prR [.str (O2.nm .or), .lst [Opd.d (.r i), Opd.d (.k v)], .fac F.d] σ (RP V (.two .or (.r i) (.k v)) σ) := by
  have hb' : 0 ≤ v ∧ v < 4294967296 := hb
  unfold Vc
  repeat' ((first | change @Bool.rec (fun _ => Prop) _ _ _ | change RP _ _ _ _ _ | change CT _ _ _ _ _ | change And _ _ | change WM _ _ _ | change Ok _ _ _ | conv => whnf); first
    | refine ForI.mk ?_
    | refine CT.rule (V := V) (F := F) (o := .or) (a := (.r i)) (b := (.k v)) rfl hcn (by assumption) (by assumption) ?_ (fun d h => h)
    | refine And.intro (by first | decide | (first | lia | omega) | (have hl : ¬ 31 < v := of_decide_eq_false hc; (first | lia | omega))) ?_)
  all_goals first
    | exact trivial
theorem vc_better_or_rr (V : List Int) (F : Fcs) (hcn : Con V F) (i : Nat) (j : Nat) (ha : Opd.wf V.length (.r i)) (hb : Opd.wf V.length (.r j)) (σ : Sg) : Vc 12 nn272.1 nb272.1 prR [.str (O2.nm .or), .lst [Opd.d (.r i), Opd.d (.r j)], .fac F.d] σ (RP V (.two .or (.r i) (.r j)) σ) := by
  unfold Vc
  repeat' ((first | change @Bool.rec (fun _ => Prop) _ _ _ | change RP _ _ _ _ _ | change CT _ _ _ _ _ | change And _ _ | change WM _ _ _ | change Ok _ _ _ | conv => whnf); first
    | refine ForI.mk ?_
    | refine CT.rule (V := V) (F := F) (o := .or) (a := (.r i)) (b := (.r j)) rfl hcn (by assumption) (by assumption) ?_ (fun d h => h)
    | refine And.intro (by first | decide | (first | lia | omega) | (have hl : ¬ 31 < v := of_decide_eq_false hc; (first | lia | omega))) ?_)
  all_goals first
    | exact trivial
theorem vc_better_xor_kk (V : List Int) (F : Fcs) (hcn : Con V F) (u : Int) (v : Int) (ha : Opd.wf V.length (.k u)) (hb : Opd.wf V.length (.k v)) (σ : Sg) : Vc 12 nn272.1 nb272.1 prR [.str (O2.nm .xor), .lst [Opd.d (.k u), Opd.d (.k v)], .fac F.d] σ (RP V (.two .xor (.k u) (.k v)) σ) := by
  have ha' : 0 ≤ u ∧ u < 4294967296 := ha
  have hb' : 0 ≤ v ∧ v < 4294967296 := hb
  unfold Vc
  repeat' ((first | change @Bool.rec (fun _ => Prop) _ _ _ | change RP _ _ _ _ _ | change CT _ _ _ _ _ | change And _ _ | change WM _ _ _ | change Ok _ _ _ | conv => whnf); first
    | refine ForI.mk ?_
    | refine RP.some rfl rfl ?_
    | refine And.intro (by first | decide | (first | lia | omega) | (have hl : ¬ 31 < v := of_decide_eq_false hc; (first | lia | omega))) ?_)
  all_goals first
    | exact trivial
    | exact wk_xor ha hb
theorem vc_better_xor_kr (V : List Int) (F : Fcs) (hcn : Con V F) (u : Int) (j : Nat) (ha : Opd.wf V.length (.k u)) (hb : Opd.wf V.length (.r j)) (σ : Sg) : Vc 12 nn272.1 nb272.1 prR [.str (O2.nm .xor), .lst [Opd.d (.k u), Opd.d (.r j)], .fac F.d] σ (RP V (.two .xor (.k u) (.r j)) σ) := by
  have ha' : 0 ≤ u ∧ u < 4294967296 := ha
  unfold Vc
  repeat' ((first | change @Bool.rec (fun _ => Prop) _ _ _ | change RP _ _ _ _ _ | change CT _ _ _ _ _ | change And _ _ | change WM _ _ _ | change Ok _ _ _ | conv => whnf); first
    | refine ForI.mk ?_
    | refine RP.some rfl rfl ?_
    | refine And.intro (by first | decide | (first | lia | omega) | (have hl : ¬ 31 < v := of_decide_eq_false hc; (first | lia | omega))) ?_)
  all_goals first
    | exact trivial
    | exact ok_swap (by simp) ha hb
theorem vc_better_xor_rk (V : List Int) (F : Fcs) (hcn : Con V F) (i : Nat) (v : Int) (ha : Opd.wf V.length (.r i)) (hb : Opd.wf V.length (.k v)) (σ : Sg) : Vc 12 nn272.1 nb272.1 prR [.str (O2.nm .xor), .lst [Opd.d (.r i), Opd.d (.k v)], .fac F.d] σ (RP V (.two .xor (.r i) (.k v)) σ) := by
  have hb' : 0 ≤ v ∧ v < 4294967296 := hb
  unfold Vc
  repeat' ((first | change @Bool.rec (fun _ => Prop) _ _ _ | change RP _ _ _ _ _ | change CT _ _ _ _ _ | change And _ _ | change WM _ _ _ | change Ok _ _ _ | conv => whnf); first
    | refine ForI.mk ?_
    | refine CT.rule (V := V) (F := F) (o := .xor) (a := (.r i)) (b := (.k v)) rfl hcn (by assumption) (by assumption) ?_ (fun d h => h)
    | refine And.intro (by first | decide | (first | lia | omega) | (have hl : ¬ 31 < v := of_decide_eq_false hc; (first | lia | omega))) ?_)
  all_goals first
    | exact trivial
theorem vc_better_xor_rr (V : List Int) (F : Fcs) (hcn : Con V F) (i : Nat) (j : Nat) (ha : Opd.wf V.length (.r i)) (hb : Opd.wf V.length (.r j)) (σ : Sg) : Vc 12 nn272.1 nb272.1 prR [.str (O2.nm .xor), .lst [Opd.d (.r i), Opd.d (.r j)], .fac F.d] σ (RP V (.two .xor (.r i) (.r j)) σ) := by
  unfold Vc
  repeat' ((first | change @Bool.rec (fun _ => Prop) _ _ _ | change RP _ _ _ _ _ | change CT _ _ _ _ _ | change And _ _ | change WM _ _ _ | change Ok _ _ _ | conv => whnf); first
    | refine ForI.mk ?_
    | refine CT.rule (V := V) (F := F) (o := .xor) (a := (.r i)) (b := (.r j)) rfl hcn (by assumption) (by assumption) ?_ (fun d h => h)
    | refine And.intro (by first | decide | (first | lia | omega) | (have hl : ¬ 31 < v := of_decide_eq_false hc; (first | lia | omega))) ?_)
  all_goals first
    | exact trivial
theorem vc_better_shl_kk (V : List Int) (F : Fcs) (hcn : Con V F) (u : Int) (v : Int) (ha : Opd.wf V.length (.k u)) (hb : Opd.wf V.length (.k v)) (σ : Sg) : Vc 12 nn272.1 nb272.1 prR [.str (O2.nm .shl), .lst [Opd.d (.k u), Opd.d (.k v)], .fac F.d] σ (RP V (.two .shl (.k u) (.k v)) σ) := by
  have ha' : 0 ≤ u ∧ u < 4294967296 := ha
  have hb' : 0 ≤ v ∧ v < 4294967296 := hb
  unfold Vc
  repeat' ((first | change @Bool.rec (fun _ => Prop) _ _ _ | change RP _ _ _ _ _ | change CT _ _ _ _ _ | change And _ _ | change WM _ _ _ | change Ok _ _ _ | conv => whnf); first
    | refine WIf.mk (fun hc => ?_) (fun hc => ?_)
    | refine ForI.mk ?_
    | refine RP.some rfl rfl ?_
    | refine CT.rule (V := V) (F := F) (o := .shl) (a := (.k u)) (b := (.k v)) rfl hcn (by assumption) (by assumption) ?_ (fun d h => h)
    | refine And.intro (by first | decide | (first | lia | omega) | (have hl : ¬ 31 < v := of_decide_eq_false hc; (first | lia | omega))) ?_)
  all_goals first
    | exact trivial
    | exact of_dec hc
    | exact wk_shl hb hc
theorem vc_better_shl_kr (V : List Int) (F : Fcs) (hcn : Con V F) (u : Int) (j : Nat) (ha : Opd.wf V.length (.k u)) (hb : Opd.wf V.length (.r j)) (σ : Sg) : Vc 12 nn272.1 nb272.1 prR [.str (O2.nm .shl), .lst [Opd.d (.k u), Opd.d (.r j)], .fac F.d] σ (RP V (.two .shl (.k u) (.r j)) σ) := by
  have ha' : 0 ≤ u ∧ u < 4294967296 := ha
  unfold Vc
  repeat' ((first | change @Bool.rec (fun _ => Prop) _ _ _ | change RP _ _ _ _ _ | change CT _ _ _ _ _ | change And _ _ | change WM _ _ _ | change Ok _ _ _ | conv => whnf); first
    | refine ForI.mk ?_
    | refine CT.rule (V := V) (F := F) (o := .shl) (a := (.k u)) (b := (.r j)) rfl hcn (by assumption) (by assumption) ?_ (fun d h => h)
    | refine And.intro (by first | decide | (first | lia | omega) | (have hl : ¬ 31 < v := of_decide_eq_false hc; (first | lia | omega))) ?_)
  all_goals first
    | exact trivial
theorem vc_better_shl_rk (V : List Int) (F : Fcs) (hcn : Con V F) (i : Nat) (v : Int) (ha : Opd.wf V.length (.r i)) (hb : Opd.wf V.length (.k v)) (σ : Sg) : Vc 12 nn272.1 nb272.1 prR [.str (O2.nm .shl), .lst [Opd.d (.r i), Opd.d (.k v)], .fac F.d] σ (RP V (.two .shl (.r i) (.k v)) σ) := by
  have hb' : 0 ≤ v ∧ v < 4294967296 := hb
  unfold Vc
  repeat' ((first | change @Bool.rec (fun _ => Prop) _ _ _ | change RP _ _ _ _ _ | change CT _ _ _ _ _ | change And _ _ | change WM _ _ _ | change Ok _ _ _ | conv => whnf); first
    | refine ForI.mk ?_
    | refine CT.rule (V := V) (F := F) (o := .shl) (a := (.r i)) (b := (.k v)) rfl hcn (by assumption) (by assumption) ?_ (fun d h => h)
    | refine And.intro (by first | decide | (first | lia | omega) | (have hl : ¬ 31 < v := of_decide_eq_false hc; (first | lia | omega))) ?_)
  all_goals first
    | exact trivial
theorem vc_better_shl_rr (V : List Int) (F : Fcs) (hcn : Con V F) (i : Nat) (j : Nat) (ha : Opd.wf V.length (.r i)) (hb : Opd.wf V.length (.r j)) (σ : Sg) : Vc 12 nn272.1 nb272.1 prR [.str (O2.nm .shl), .lst [Opd.d (.r i), Opd.d (.r j)], .fac F.d] σ (RP V (.two .shl (.r i) (.r j)) σ) := by
  unfold Vc
  repeat' ((first | change @Bool.rec (fun _ => Prop) _ _ _ | change RP _ _ _ _ _ | change CT _ _ _ _ _ | change And _ _ | change WM _ _ _ | change Ok _ _ _ | conv => whnf); first
    | refine ForI.mk ?_
    | refine CT.rule (V := V) (F := F) (o := .shl) (a := (.r i)) (b := (.r j)) rfl hcn (by assumption) (by assumption) ?_ (fun d h => h)
    | refine And.intro (by first | decide | (first | lia | omega) | (have hl : ¬ 31 < v := of_decide_eq_false hc; (first | lia | omega))) ?_)
  all_goals first
    | exact trivial
theorem vc_better_shr_kk (V : List Int) (F : Fcs) (hcn : Con V F) (u : Int) (v : Int) (ha : Opd.wf V.length (.k u)) (hb : Opd.wf V.length (.k v)) (σ : Sg) : Vc 12 nn272.1 nb272.1 prR [.str (O2.nm .shr), .lst [Opd.d (.k u), Opd.d (.k v)], .fac F.d] σ (RP V (.two .shr (.k u) (.k v)) σ) := by
  have ha' : 0 ≤ u ∧ u < 4294967296 := ha
  have hb' : 0 ≤ v ∧ v < 4294967296 := hb
  unfold Vc
  repeat' ((first | change @Bool.rec (fun _ => Prop) _ _ _ | change RP _ _ _ _ _ | change CT _ _ _ _ _ | change And _ _ | change WM _ _ _ | change Ok _ _ _ | conv => whnf); first
    | refine WIf.mk (fun hc => ?_) (fun hc => ?_)
    | refine ForI.mk ?_
    | refine RP.some rfl rfl ?_
    | refine CT.rule (V := V) (F := F) (o := .shr) (a := (.k u)) (b := (.k v)) rfl hcn (by assumption) (by assumption) ?_ (fun d h => h)
    | refine And.intro (by first | decide | (first | lia | omega) | (have hl : ¬ 31 < v := of_decide_eq_false hc; (first | lia | omega))) ?_)
  all_goals first
    | exact trivial
    | exact of_dec hc
    | exact wk_shr ha hb hc
theorem vc_better_shr_kr (V : List Int) (F : Fcs) (hcn : Con V F) (u : Int) (j : Nat) (ha : Opd.wf V.length (.k u)) (hb : Opd.wf V.length (.r j)) (σ : Sg) : Vc 12 nn272.1 nb272.1 prR [.str (O2.nm .shr), .lst [Opd.d (.k u), Opd.d (.r j)], .fac F.d] σ (RP V (.two .shr (.k u) (.r j)) σ) := by
  have ha' : 0 ≤ u ∧ u < 4294967296 := ha
  unfold Vc
  repeat' ((first | change @Bool.rec (fun _ => Prop) _ _ _ | change RP _ _ _ _ _ | change CT _ _ _ _ _ | change And _ _ | change WM _ _ _ | change Ok _ _ _ | conv => whnf); first
    | refine ForI.mk ?_
    | refine CT.rule (V := V) (F := F) (o := .shr) (a := (.k u)) (b := (.r j)) rfl hcn (by assumption) (by assumption) ?_ (fun d h => h)
    | refine And.intro (by first | decide | (first | lia | omega) | (have hl : ¬ 31 < v := of_decide_eq_false hc; (first | lia | omega))) ?_)
  all_goals first
    | exact trivial
theorem vc_better_shr_rk (V : List Int) (F : Fcs) (hcn : Con V F) (i : Nat) (v : Int) (ha : Opd.wf V.length (.r i)) (hb : Opd.wf V.length (.k v)) (σ : Sg) : Vc 12 nn272.1 nb272.1 prR [.str (O2.nm .shr), .lst [Opd.d (.r i), Opd.d (.k v)], .fac F.d] σ (RP V (.two .shr (.r i) (.k v)) σ) := by
  have hb' : 0 ≤ v ∧ v < 4294967296 := hb
  unfold Vc
  repeat' ((first | change @Bool.rec (fun _ => Prop) _ _ _ | change RP _ _ _ _ _ | change CT _ _ _ _ _ | change And _ _ | change WM _ _ _ | change Ok _ _ _ | conv => whnf); first
    | refine ForI.mk ?_
    | refine CT.rule (V := V) (F := F) (o := .shr) (a := (.r i)) (b := (.k v)) rfl hcn (by assumption) (by assumption) ?_ (fun d h => h)
    | refine And.intro (by first | decide | (first | lia | omega) | (have hl : ¬ 31 < v := of_decide_eq_false hc; (first | lia | omega))) ?_)
  all_goals first
    | exact trivial
theorem vc_better_shr_rr (V : List Int) (F : Fcs) (hcn : Con V F) (i : Nat) (j : Nat) (ha : Opd.wf V.length (.r i)) (hb : Opd.wf V.length (.r j)) (σ : Sg) : Vc 12 nn272.1 nb272.1 prR [.str (O2.nm .shr), .lst [Opd.d (.r i), Opd.d (.r j)], .fac F.d] σ (RP V (.two .shr (.r i) (.r j)) σ) := by
  unfold Vc
  repeat' ((first | change @Bool.rec (fun _ => Prop) _ _ _ | change RP _ _ _ _ _ | change CT _ _ _ _ _ | change And _ _ | change WM _ _ _ | change Ok _ _ _ | conv => whnf); first
    | refine ForI.mk ?_
    | refine CT.rule (V := V) (F := F) (o := .shr) (a := (.r i)) (b := (.r j)) rfl hcn (by assumption) (by assumption) ?_ (fun d h => h)
    | refine And.intro (by first | decide | (first | lia | omega) | (have hl : ¬ 31 < v := of_decide_eq_false hc; (first | lia | omega))) ?_)
  all_goals first
    | exact trivial
theorem vc_better_sar_kk (V : List Int) (F : Fcs) (hcn : Con V F) (u : Int) (v : Int) (ha : Opd.wf V.length (.k u)) (hb : Opd.wf V.length (.k v)) (σ : Sg) : Vc 12 nn272.1 nb272.1 prR [.str (O2.nm .sar), .lst [Opd.d (.k u), Opd.d (.k v)], .fac F.d] σ (RP V (.two .sar (.k u) (.k v)) σ) := by
  have ha' : 0 ≤ u ∧ u < 4294967296 := ha
  have hb' : 0 ≤ v ∧ v < 4294967296 := hb
  unfold Vc
  repeat' ((first | change @Bool.rec (fun _ => Prop) _ _ _ | change RP _ _ _ _ _ | change CT _ _ _ _ _ | change And _ _ | change WM _ _ _ | change Ok _ _ _ | conv => whnf); first
    | refine WIf.mk (fun hc => ?_) (fun hc => ?_)
    | refine ForI.mk ?_
    | refine RP.some rfl rfl ?_
    | refine CT.rule (V := V) (F := F) (o := .sar) (a := (.k u)) (b := (.k v)) rfl hcn (by assumption) (by assumption) ?_ (fun d h => h)
    | refine And.intro (by first | decide | (first | lia | omega) | (have hl : ¬ 31 < v := of_decide_eq_false hc; (first | lia | omega))) ?_)
  all_goals first
    | exact trivial
    | exact of_dec hc
    | exact wk_sar (by first | exact sg_t (by assumption) | exact sg_f (by assumption)) hb (by assumption)
theorem vc_better_sar_kr (V : List Int) (F : Fcs) (hcn : Con V F) (u : Int) (j : Nat) (ha : Opd.wf V.length (.k u)) (hb : Opd.wf V.length (.r j)) (σ : Sg) : Vc 12 nn272.1 nb272.1 prR [.str (O2.nm .sar), .lst [Opd.d (.k u), Opd.d (.r j)], .fac F.d] σ (RP V (.two .sar (.k u) (.r j)) σ) := by
  have ha' : 0 ≤ u ∧ u < 4294967296 := ha
  unfold Vc
  repeat' ((first | change @Bool.rec (fun _ => Prop) _ _ _ | change RP _ _ _ _ _ | change CT _ _ _ _ _ | change And _ _ | change WM _ _ _ | change Ok _ _ _ | conv => whnf); first
    | refine ForI.mk ?_
    | refine CT.rule (V := V) (F := F) (o := .sar) (a := (.k u)) (b := (.r j)) rfl hcn (by assumption) (by assumption) ?_ (fun d h => h)
    | refine And.intro (by first | decide | (first | lia | omega) | (have hl : ¬ 31 < v := of_decide_eq_false hc; (first | lia | omega))) ?_)
  all_goals first
    | exact trivial
theorem vc_better_sar_rk (V : List Int) (F : Fcs) (hcn : Con V F) (i : Nat) (v : Int) (ha : Opd.wf V.length (.r i)) (hb : Opd.wf V.length (.k v)) (σ : Sg) : Vc 12 nn272.1 nb272.1 prR [.str (O2.nm .sar), .lst [Opd.d (.r i), Opd.d (.k v)], .fac F.d] σ (RP V (.two .sar (.r i) (.k v)) σ) := by
  have hb' : 0 ≤ v ∧ v < 4294967296 := hb
  unfold Vc
  repeat' ((first | change @Bool.rec (fun _ => Prop) _ _ _ | change RP _ _ _ _ _ | change CT _ _ _ _ _ | change And _ _ | change WM _ _ _ | change Ok _ _ _ | conv => whnf); first
    | refine ForI.mk ?_
    | refine CT.rule (V := V) (F := F) (o := .sar) (a := (.r i)) (b := (.k v)) rfl hcn (by assumption) (by assumption) ?_ (fun d h => h)
    | refine And.intro (by first | decide | (first | lia | omega) | (have hl : ¬ 31 < v := of_decide_eq_false hc; (first | lia | omega))) ?_)
  all_goals first
    | exact trivial
theorem vc_better_sar_rr (V : List Int) (F : Fcs) (hcn : Con V F) (i : Nat) (j : Nat) (ha : Opd.wf V.length (.r i)) (hb : Opd.wf V.length (.r j)) (σ : Sg) : Vc 12 nn272.1 nb272.1 prR [.str (O2.nm .sar), .lst [Opd.d (.r i), Opd.d (.r j)], .fac F.d] σ (RP V (.two .sar (.r i) (.r j)) σ) := by
  unfold Vc
  repeat' ((first | change @Bool.rec (fun _ => Prop) _ _ _ | change RP _ _ _ _ _ | change CT _ _ _ _ _ | change And _ _ | change WM _ _ _ | change Ok _ _ _ | conv => whnf); first
    | refine ForI.mk ?_
    | refine CT.rule (V := V) (F := F) (o := .sar) (a := (.r i)) (b := (.r j)) rfl hcn (by assumption) (by assumption) ?_ (fun d h => h)
    | refine And.intro (by first | decide | (first | lia | omega) | (have hl : ¬ 31 < v := of_decide_eq_false hc; (first | lia | omega))) ?_)
  all_goals first
    | exact trivial
end Mine.Internal

end
section
open PySem PySem.W PyProof.Rows PySem.Calls
set_option Elab.async false
set_option tactic.hygienic false
set_option maxRecDepth 100000
set_option maxHeartbeats 4000000
set_option linter.all false
set_option backward.match.sparseCases false
set_option bootstrap.genMatcherCode false
namespace Mine.Internal
theorem vc_better_div_kk (V : List Int) (F : Fcs) (hcn : Con V F) (u : Int) (v : Int) (ha : Opd.wf V.length (.k u)) (hb : Opd.wf V.length (.k v)) (σ : Sg) : Vc 12 nn272.1 nb272.1 prR [.str (O2.nm .div), .lst [Opd.d (.k u), Opd.d (.k v)], .fac F.d] σ (RP V (.two .div (.k u) (.k v)) σ) := by
  have ha' : 0 ≤ u ∧ u < 4294967296 := ha
  have hb' : 0 ≤ v ∧ v < 4294967296 := hb
  unfold Vc
  repeat' ((first | change @Bool.rec (fun _ => Prop) _ _ _ | change RP _ _ _ _ _ | change CT _ _ _ _ _ | change And _ _ | change WM _ _ _ | change Ok _ _ _ | conv => whnf); first
    | refine WIf.mk (fun hc => ?_) (fun hc => ?_)
    | refine ForI.mk ?_
    | refine RP.some rfl rfl ?_
    | refine CT.rule (V := V) (F := F) (o := .div) (a := (.k u)) (b := (.k v)) rfl hcn (by assumption) (by assumption) ?_ (fun d h => h)
    | refine And.intro (by first | decide | omega | exact fd3 (by first | exact .inl rfl | exact .inr rfl) (by first | exact .inl rfl | exact .inr rfl) ha hb (by assumption) | (have hl : ¬ 31 < v := of_decide_eq_false hc; omega)) ?_)
  all_goals first
    | exact trivial
    | exact Or.inl (of_dec hc)
    | exact (Or.inr (by have hq : v - 4294967296 = -1 := of_dec hc; omega))
    | exact (Or.inr (by have hq : v = -1 := of_dec hc; omega))
    | (have hq : _ = true := hc; exact wk_div_n (by first | exact sg_t (by assumption) | exact sg_f (by assumption)) (by first | exact sg_t (by assumption) | exact sg_f (by assumption)) (by assumption) hc)
    | (have hq : _ = false := hc; exact wk_div_p (by first | exact sg_t (by assumption) | exact sg_f (by assumption)) (by first | exact sg_t (by assumption) | exact sg_f (by assumption)) (by assumption) hc)
theorem vc_better_div_kr (V : List Int) (F : Fcs) (hcn : Con V F) (u : Int) (j : Nat) (ha : Opd.wf V.length (.k u)) (hb : Opd.wf V.length (.r j)) (σ : Sg) : Vc 12 nn272.1 nb272.1 prR [.str (O2.nm .div), .lst [Opd.d (.k u), Opd.d (.r j)], .fac F.d] σ (RP V (.two .div (.k u) (.r j)) σ) := by
  have ha' : 0 ≤ u ∧ u < 4294967296 := ha
  unfold Vc
  repeat' ((first | change @Bool.rec (fun _ => Prop) _ _ _ | change RP _ _ _ _ _ | change CT _ _ _ _ _ | change And _ _ | change WM _ _ _ | change Ok _ _ _ | conv => whnf); first
    | refine ForI.mk ?_
    | refine CT.rule (V := V) (F := F) (o := .div) (a := (.k u)) (b := (.r j)) rfl hcn (by assumption) (by assumption) ?_ (fun d h => h)
    | refine And.intro (by first | decide | omega | (have hl : ¬ 31 < v := of_decide_eq_false hc; omega)) ?_)
  all_goals first
    | exact trivial
    | exact Or.inl (of_dec hc)
    | exact (Or.inr (by have hq : v - 4294967296 = -1 := of_dec hc; omega))
    | exact (Or.inr (by have hq : v = -1 := of_dec hc; omega))
    | (have hq : _ = true := hc; exact wk_div_n (by exact sg_f (by assumption)) (by exact sg_f (by assumption)) (by assumption) hc)
    | (have hq : _ = false := hc; exact wk_div_p (by exact sg_f (by assumption)) (by exact sg_f (by assumption)) (by assumption) hc)
theorem vc_better_div_rk (V : List Int) (F : Fcs) (hcn : Con V F) (i : Nat) (v : Int) (ha : Opd.wf V.length (.r i)) (hb : Opd.wf V.length (.k v)) (σ : Sg) : Vc 12 nn272.1 nb272.1 prR [.str (O2.nm .div), .lst [Opd.d (.r i), Opd.d (.k v)], .fac F.d] σ (RP V (.two .div (.r i) (.k v)) σ) := by
  have hb' : 0 ≤ v ∧ v < 4294967296 := hb
  unfold Vc
  repeat' ((first | change @Bool.rec (fun _ => Prop) _ _ _ | change RP _ _ _ _ _ | change CT _ _ _ _ _ | change And _ _ | change WM _ _ _ | change Ok _ _ _ | conv => whnf); first
    | refine ForI.mk ?_
    | refine CT.rule (V := V) (F := F) (o := .div) (a := (.r i)) (b := (.k v)) rfl hcn (by assumption) (by assumption) ?_ (fun d h => h)
    | refine And.intro (by first | decide | omega | (have hl : ¬ 31 < v := of_decide_eq_false hc; omega)) ?_)
  all_goals first
    | exact trivial
    | exact Or.inl (of_dec hc)
    | exact (Or.inr (by have hq : v - 4294967296 = -1 := of_dec hc; omega))
    | exact (Or.inr (by have hq : v = -1 := of_dec hc; omega))
    | (have hq : _ = true := hc; exact wk_div_n (by exact sg_f (by assumption)) (by exact sg_f (by assumption)) (by assumption) hc)
    | (have hq : _ = false := hc; exact wk_div_p (by exact sg_f (by assumption)) (by exact sg_f (by assumption)) (by assumption) hc)
theorem vc_better_div_rr (V : List Int) (F : Fcs) (hcn : Con V F) (i : Nat) (j : Nat) (ha : Opd.wf V.length (.r i)) (hb : Opd.wf V.length (.r j)) (σ : Sg) : Vc 12 nn272.1 nb272.1 prR [.str (O2.nm .div), .lst [Opd.d (.r i), Opd.d (.r j)], .fac F.d] σ (RP V (.two .div (.r i) (.r j)) σ) := by
  unfold Vc
  repeat' ((first | change @Bool.rec (fun _ => Prop) _ _ _ | change RP _ _ _ _ _ | change CT _ _ _ _ _ | change And _ _ | change WM _ _ _ | change Ok _ _ _ | conv => whnf); first
    | refine ForI.mk ?_
    | refine CT.rule (V := V) (F := F) (o := .div) (a := (.r i)) (b := (.r j)) rfl hcn (by assumption) (by assumption) ?_ (fun d h => h)
    | refine And.intro (by first | decide | omega | (have hl : ¬ 31 < v := of_decide_eq_false hc; omega)) ?_)
  all_goals first
    | exact trivial
    | exact Or.inl (of_dec hc)
    | exact (Or.inr (by have hq : v - 4294967296 = -1 := of_dec hc; omega))
    | exact (Or.inr (by have hq : v = -1 := of_dec hc; omega))
    | (have hq : _ = true := hc; exact wk_div_n (by exact sg_f (by assumption)) (by exact sg_f (by assumption)) (by assumption) hc)
    | (have hq : _ = false := hc; exact wk_div_p (by exact sg_f (by assumption)) (by exact sg_f (by assumption)) (by assumption) hc)
theorem vc_better_divu_kk (V : List Int) (F : Fcs) (hcn : Con V F) (u : Int) (v : Int) (ha : Opd.wf V.length (.k u)) (hb : Opd.wf V.length (.k v)) (σ : Sg) : Vc 12 nn272.1 nb272.1 prR [.str (O2.nm .divu), .lst [Opd.d (.k u), Opd.d (.k v)], .fac F.d] σ (RP V (.two .divu (.k u) (.k v)) σ) := by
  have ha' : 0 ≤ u ∧ u < 4294967296 := ha
  have hb' : 0 ≤ v ∧ v < 4294967296 := hb
  unfold Vc
  repeat' ((first | change @Bool.rec (fun _ => Prop) _ _ _ | change RP _ _ _ _ _ | change CT _ _ _ _ _ | change And _ _ | change WM _ _ _ | change Ok _ _ _ | conv => whnf); first
    | refine WIf.mk (fun hc => ?_) (fun hc => ?_)
    | refine ForI.mk ?_
    | refine RP.some rfl rfl ?_
    | refine CT.rule (V := V) (F := F) (o := .divu) (a := (.k u)) (b := (.k v)) rfl hcn (by assumption) (by assumption) ?_ (fun d h => h)
    | refine And.intro (by first | decide | omega | exact fd1 ha hb (by assumption) | (have hl : ¬ 31 < v := of_decide_eq_false hc; omega)) ?_)
  all_goals first
    | exact trivial
    | exact of_dec hc
    | exact wk_divu ha hb hc
theorem vc_better_divu_kr (V : List Int) (F : Fcs) (hcn : Con V F) (u : Int) (j : Nat) (ha : Opd.wf V.length (.k u)) (hb : Opd.wf V.length (.r j)) (σ : Sg) : Vc 12 nn272.1 nb272.1 prR [.str (O2.nm .divu), .lst [Opd.d (.k u), Opd.d (.r j)], .fac F.d] σ (RP V (.two .divu (.k u) (.r j)) σ) := by
  have ha' : 0 ≤ u ∧ u < 4294967296 := ha
  unfold Vc
  repeat' ((first | change @Bool.rec (fun _ => Prop) _ _ _ | change RP _ _ _ _ _ | change CT _ _ _ _ _ | change And _ _ | change WM _ _ _ | change Ok _ _ _ | conv => whnf); first
    | refine ForI.mk ?_
    | refine CT.rule (V := V) (F := F) (o := .divu) (a := (.k u)) (b := (.r j)) rfl hcn (by assumption) (by assumption) ?_ (fun d h => h)
    | refine And.intro (by first | decide | omega | (have hl : ¬ 31 < v := of_decide_eq_false hc; omega)) ?_)
  all_goals first
    | exact trivial
theorem vc_better_divu_rk (V : List Int) (F : Fcs) (hcn : Con V F) (i : Nat) (v : Int) (ha : Opd.wf V.length (.r i)) (hb : Opd.wf V.length (.k v)) (σ : Sg) : Vc 12 nn272.1 nb272.1 prR [.str (O2.nm .divu), .lst [Opd.d (.r i), Opd.d (.k v)], .fac F.d] σ (RP V (.two .divu (.r i) (.k v)) σ) := by
  have hb' : 0 ≤ v ∧ v < 4294967296 := hb
  unfold Vc
  repeat' ((first | change @Bool.rec (fun _ => Prop) _ _ _ | change RP _ _ _ _ _ | change CT _ _ _ _ _ | change And _ _ | change WM _ _ _ | change Ok _ _ _ | conv => whnf); first
    | refine ForI.mk ?_
    | refine CT.rule (V := V) (F := F) (o := .divu) (a := (.r i)) (b := (.k v)) rfl hcn (by assumption) (by assumption) ?_ (fun d h => h)
    | refine And.intro (by first | decide | omega | (have hl : ¬ 31 < v := of_decide_eq_false hc; omega)) ?_)
  all_goals first
    | exact trivial
theorem vc_better_divu_rr (V : List Int) (F : Fcs) (hcn : Con V F) (i : Nat) (j : Nat) (ha : Opd.wf V.length (.r i)) (hb : Opd.wf V.length (.r j)) (σ : Sg) : Vc 12 nn272.1 nb272.1 prR [.str (O2.nm .divu), .lst [Opd.d (.r i), Opd.d (.r j)], .fac F.d] σ (RP V (.two .divu (.r i) (.r j)) σ) := by
  unfold Vc
  repeat' ((first | change @Bool.rec (fun _ => Prop) _ _ _ | change RP _ _ _ _ _ | change CT _ _ _ _ _ | change And _ _ | change WM _ _ _ | change Ok _ _ _ | conv => whnf); first
    | refine ForI.mk ?_
    | refine CT.rule (V := V) (F := F) (o := .divu) (a := (.r i)) (b := (.r j)) rfl hcn (by assumption) (by assumption) ?_ (fun d h => h)
    | refine And.intro (by first | decide | omega | (have hl : ¬ 31 < v := of_decide_eq_false hc; omega)) ?_)
  all_goals first
    | exact trivial
theorem vc_better_rem_kk (V : List Int) (F : Fcs) (hcn : Con V F) (u : Int) (v : Int) (ha : Opd.wf V.length (.k u)) (hb : Opd.wf V.length (.k v)) (σ : Sg) : Vc 12 nn272.1 nb272.1 prR [.str (O2.nm .rem), .lst [Opd.d (.k u), Opd.d (.k v)], .fac F.d] σ (RP V (.two .rem (.k u) (.k v)) σ) := by
  have ha' : 0 ≤ u ∧ u < 4294967296 := ha
  have hb' : 0 ≤ v ∧ v < 4294967296 := hb
  unfold Vc
  repeat' ((first | change @Bool.rec (fun _ => Prop) _ _ _ | change RP _ _ _ _ _ | change CT _ _ _ _ _ | change And _ _ | change WM _ _ _ | change Ok _ _ _ | conv => whnf); first
    | refine WIf.mk (fun hc => ?_) (fun hc => ?_)
    | refine ForI.mk ?_
    | refine RP.some rfl rfl ?_
    | refine CT.rule (V := V) (F := F) (o := .rem) (a := (.k u)) (b := (.k v)) rfl hcn (by assumption) (by assumption) ?_ (fun d h => h)
    | refine And.intro (by first | decide | omega | exact fd3 (by first | exact .inl rfl | exact .inr rfl) (by first | exact .inl rfl | exact .inr rfl) ha hb (by assumption) | exact fd4 (by first | exact .inl rfl | exact .inr rfl) (by first | exact .inl rfl | exact .inr rfl) ha hb (by assumption) | exact fd5 (by first | exact .inl rfl | exact .inr rfl) (by first | exact .inl rfl | exact .inr rfl) ha hb (by assumption) | (have hl : ¬ 31 < v := of_decide_eq_false hc; omega)) ?_)
  all_goals first
    | exact trivial
    | exact Or.inl (of_dec hc)
    | exact (Or.inr (by have hq : v - 4294967296 = -1 := of_dec hc; omega))
    | exact (Or.inr (by have hq : v = -1 := of_dec hc; omega))
    | (have hq : _ = true := hc; exact wk_rem_n (by first | exact sg_t (by assumption) | exact sg_f (by assumption)) (by first | exact sg_t (by assumption) | exact sg_f (by assumption)) (by assumption) hc)
    | (have hq : _ = false := hc; exact wk_rem_p (by first | exact sg_t (by assumption) | exact sg_f (by assumption)) (by first | exact sg_t (by assumption) | exact sg_f (by assumption)) (by assumption) hc)
theorem vc_better_rem_kr (V : List Int) (F : Fcs) (hcn : Con V F) (u : Int) (j : Nat) (ha : Opd.wf V.length (.k u)) (hb : Opd.wf V.length (.r j)) (σ : Sg) : Vc 12 nn272.1 nb272.1 prR [.str (O2.nm .rem), .lst [Opd.d (.k u), Opd.d (.r j)], .fac F.d] σ (RP V (.two .rem (.k u) (.r j)) σ) := by
  have ha' : 0 ≤ u ∧ u < 4294967296 := ha
  unfold Vc
  repeat' ((first | change @Bool.rec (fun _ => Prop) _ _ _ | change RP _ _ _ _ _ | change CT _ _ _ _ _ | change And _ _ | change WM _ _ _ | change Ok _ _ _ | conv => whnf); first
    | refine ForI.mk ?_
    | refine CT.rule (V := V) (F := F) (o := .rem) (a := (.k u)) (b := (.r j)) rfl hcn (by assumption) (by assumption) ?_ (fun d h => h)
    | refine And.intro (by first | decide | omega | (have hl : ¬ 31 < v := of_decide_eq_false hc; omega)) ?_)
  all_goals first
    | exact trivial
    | exact Or.inl (of_dec hc)
    | exact (Or.inr (by have hq : v - 4294967296 = -1 := of_dec hc; omega))
    | exact (Or.inr (by have hq : v = -1 := of_dec hc; omega))
    | (have hq : _ = true := hc; exact wk_rem_n (by exact sg_f (by assumption)) (by exact sg_f (by assumption)) (by assumption) hc)
    | (have hq : _ = false := hc; exact wk_rem_p (by exact sg_f (by assumption)) (by exact sg_f (by assumption)) (by assumption) hc)
theorem vc_better_rem_rk (V : List Int) (F : Fcs) (hcn : Con V F) (i : Nat) (v : Int) (ha : Opd.wf V.length (.r i)) (hb : Opd.wf V.length (.k v)) (σ : Sg) : Vc 12 nn272.1 nb272.1 prR [.str (O2.nm .rem), .lst [Opd.d (.r i), Opd.d (.k v)], .fac F.d] σ (RP V (.two .rem (.r i) (.k v)) σ) := by
  have hb' : 0 ≤ v ∧ v < 4294967296 := hb
  unfold Vc
  repeat' ((first | change @Bool.rec (fun _ => Prop) _ _ _ | change RP _ _ _ _ _ | change CT _ _ _ _ _ | change And _ _ | change WM _ _ _ | change Ok _ _ _ | conv => whnf); first
    | refine ForI.mk ?_
    | refine CT.rule (V := V) (F := F) (o := .rem) (a := (.r i)) (b := (.k v)) rfl hcn (by assumption) (by assumption) ?_ (fun d h => h)
    | refine And.intro (by first | decide | omega | (have hl : ¬ 31 < v := of_decide_eq_false hc; omega)) ?_)
  all_goals first
    | exact trivial
    | exact Or.inl (of_dec hc)
    | exact (Or.inr (by have hq : v - 4294967296 = -1 := of_dec hc; omega))
    | exact (Or.inr (by have hq : v = -1 := of_dec hc; omega))
    | (have hq : _ = true := hc; exact wk_rem_n (by exact sg_f (by assumption)) (by exact sg_f (by assumption)) (by assumption) hc)
    | (have hq : _ = false := hc; exact wk_rem_p (by exact sg_f (by assumption)) (by exact sg_f (by assumption)) (by assumption) hc)
theorem vc_better_rem_rr (V : List Int) (F : Fcs) (hcn : Con V F) (i : Nat) (j : Nat) (ha : Opd.wf V.length (.r i)) (hb : Opd.wf V.length (.r j)) (σ : Sg) : Vc 12 nn272.1 nb272.1 prR [.str (O2.nm .rem), .lst [Opd.d (.r i), Opd.d (.r j)], .fac F.d] σ (RP V (.two .rem (.r i) (.r j)) σ) := by
  unfold Vc
  repeat' ((first | change @Bool.rec (fun _ => Prop) _ _ _ | change RP _ _ _ _ _ | change CT _ _ _ _ _ | change And _ _ | change WM _ _ _ | change Ok _ _ _ | conv => whnf); first
    | refine ForI.mk ?_
    | refine CT.rule (V := V) (F := F) (o := .rem) (a := (.r i)) (b := (.r j)) rfl hcn (by assumption) (by assumption) ?_ (fun d h => h)
    | refine And.intro (by first | decide | omega | (have hl : ¬ 31 < v := of_decide_eq_false hc; omega)) ?_)
  all_goals first
    | exact trivial
    | exact Or.inl (of_dec hc)
    | exact (Or.inr (by have hq : v - 4294967296 = -1 := of_dec hc; omega))
    | exact (Or.inr (by have hq : v = -1 := of_dec hc; omega))
    | (have hq : _ = true := hc; exact wk_rem_n (by exact sg_f (by assumption)) (by exact sg_f (by assumption)) (by assumption) hc)
    | (have hq : _ = false := hc; exact wk_rem_p (by exact sg_f (by assumption)) (by exact sg_f (by assumption)) (by assumption) hc)
theorem vc_better_remu_kk (V : List Int) (F : Fcs) (hcn : Con V F) (u : Int) (v : Int) (ha : Opd.wf V.length (.k u)) (hb : Opd.wf V.length (.k v)) (σ : Sg) : Vc 12 nn272.1 nb272.1 prR [.str (O2.nm .remu), .lst [Opd.d (.k u), Opd.d (.k v)], .fac F.d] σ (RP V (.two .remu (.k u) (.k v)) σ) := by
  have ha' : 0 ≤ u ∧ u < 4294967296 := ha
  have hb' : 0 ≤ v ∧ v < 4294967296 := hb
  unfold Vc
  repeat' ((first | change @Bool.rec (fun _ => Prop) _ _ _ | change RP _ _ _ _ _ | change CT _ _ _ _ _ | change And _ _ | change WM _ _ _ | change Ok _ _ _ | conv => whnf); first
    | refine WIf.mk (fun hc => ?_) (fun hc => ?_)
    | refine ForI.mk ?_
    | refine RP.some rfl rfl ?_
    | refine CT.rule (V := V) (F := F) (o := .remu) (a := (.k u)) (b := (.k v)) rfl hcn (by assumption) (by assumption) ?_ (fun d h => h)
    | refine And.intro (by first | decide | omega | exact fd2 ha hb (by assumption) | (have hl : ¬ 31 < v := of_decide_eq_false hc; omega)) ?_)
  all_goals first
    | exact trivial
    | exact of_dec hc
    | exact wk_remu ha hb hc
theorem vc_better_remu_kr (V : List Int) (F : Fcs) (hcn : Con V F) (u : Int) (j : Nat) (ha : Opd.wf V.length (.k u)) (hb : Opd.wf V.length (.r j)) (σ : Sg) : Vc 12 nn272.1 nb272.1 prR [.str (O2.nm .remu), .lst [Opd.d (.k u), Opd.d (.r j)], .fac F.d] σ (RP V (.two .remu (.k u) (.r j)) σ) := by
  have ha' : 0 ≤ u ∧ u < 4294967296 := ha
  unfold Vc
  repeat' ((first | change @Bool.rec (fun _ => Prop) _ _ _ | change RP _ _ _ _ _ | change CT _ _ _ _ _ | change And _ _ | change WM _ _ _ | change Ok _ _ _ | conv => whnf); first
    | refine ForI.mk ?_
    | refine CT.rule (V := V) (F := F) (o := .remu) (a := (.k u)) (b := (.r j)) rfl hcn (by assumption) (by assumption) ?_ (fun d h => h)
    | refine And.intro (by first | decide | omega | (have hl : ¬ 31 < v := of_decide_eq_false hc; omega)) ?_)
  all_goals first
    | exact trivial
theorem vc_better_remu_rk (V : List Int) (F : Fcs) (hcn : Con V F) (i : Nat) (v : Int) (ha : Opd.wf V.length (.r i)) (hb : Opd.wf V.length (.k v)) (σ : Sg) : Vc 12 nn272.1 nb272.1 prR [.str (O2.nm .remu), .lst [Opd.d (.r i), Opd.d (.k v)], .fac F.d] σ (RP V (.two .remu (.r i) (.k v)) σ) := by
  have hb' : 0 ≤ v ∧ v < 4294967296 := hb
  unfold Vc
  repeat' ((first | change @Bool.rec (fun _ => Prop) _ _ _ | change RP _ _ _ _ _ | change CT _ _ _ _ _ | change And _ _ | change WM _ _ _ | change Ok _ _ _ | conv => whnf); first
    | refine ForI.mk ?_
    | refine CT.rule (V := V) (F := F) (o := .remu) (a := (.r i)) (b := (.k v)) rfl hcn (by assumption) (by assumption) ?_ (fun d h => h)
    | refine And.intro (by first | decide | omega | (have hl : ¬ 31 < v := of_decide_eq_false hc; omega)) ?_)
  all_goals first
    | exact trivial
theorem vc_better_remu_rr (V : List Int) (F : Fcs) (hcn : Con V F) (i : Nat) (j : Nat) (ha : Opd.wf V.length (.r i)) (hb : Opd.wf V.length (.r j)) (σ : Sg) : Vc 12 nn272.1 nb272.1 prR [.str (O2.nm .remu), .lst [Opd.d (.r i), Opd.d (.r j)], .fac F.d] σ (RP V (.two .remu (.r i) (.r j)) σ) := by
  unfold Vc
  repeat' ((first | change @Bool.rec (fun _ => Prop) _ _ _ | change RP _ _ _ _ _ | change CT _ _ _ _ _ | change And _ _ | change WM _ _ _ | change Ok _ _ _ | conv => whnf); first
    | refine ForI.mk ?_
    | refine CT.rule (V := V) (F := F) (o := .remu) (a := (.r i)) (b := (.r j)) rfl hcn (by assumption) (by assumption) ?_ (fun d h => h)
    | refine And.intro (by first | decide | omega | (have hl : ¬ 31 < v := of_decide_eq_false hc; omega)) ?_)
  all_goals first
    | exact trivial
end Mine.Internal

end
section
open PySem PySem.W PyProof.Rows PySem.Calls
set_option Elab.async false
set_option tactic.hygienic false
set_option maxRecDepth 100000
set_option maxHeartbeats 4000000
set_option linter.all false
set_option backward.match.sparseCases false
set_option bootstrap.genMatcherCode false
namespace Mine.Internal
theorem vc_better_lt_kk (V : List Int) (F : Fcs) (hcn : Con V F) (u : Int) (v : Int) (ha : Opd.wf V.length (.k u)) (hb : Opd.wf V.length (.k v)) (σ : Sg) : Vc 12 nn272.1 nb272.1 prR [.str (O2.nm .lt), .lst [Opd.d (.k u), Opd.d (.k v)], .fac F.d] σ (RP V (.two .lt (.k u) (.k v)) σ) := by
  have ha' : 0 ≤ u ∧ u < 4294967296 := ha
  have hb' : 0 ≤ v ∧ v < 4294967296 := hb
  unfold Vc
  repeat' ((first | change @Bool.rec (fun _ => Prop) _ _ _ | change RP _ _ _ _ _ | change CT _ _ _ _ _ | change And _ _ | change WM _ _ _ | change Ok _ _ _ | conv => whnf); first
    | refine WIf.mk (fun hc => ?_) (fun hc => ?_)
    | refine ForI.mk ?_
    | refine RP.some rfl rfl ?_
    | refine And.intro (by first | decide | (first | lia | omega) | (have hl : ¬ 31 < v := of_decide_eq_false hc; (first | lia | omega))) ?_)
  all_goals first
    | exact trivial
    | exact wk_lt_t rfl (by first | exact sg_t (by assumption) | exact sg_f (by assumption)) (by first | exact sg_t (by assumption) | exact sg_f (by assumption)) hc
    | exact wk_lt_f rfl (by first | exact sg_t (by assumption) | exact sg_f (by assumption)) (by first | exact sg_t (by assumption) | exact sg_f (by assumption)) hc
theorem vc_better_lt_kr (V : List Int) (F : Fcs) (hcn : Con V F) (u : Int) (j : Nat) (ha : Opd.wf V.length (.k u)) (hb : Opd.wf V.length (.r j)) (σ : Sg) : Vc 12 nn272.1 nb272.1 prR [.str (O2.nm .lt), .lst [Opd.d (.k u), Opd.d (.r j)], .fac F.d] σ (RP V (.two .lt (.k u) (.r j)) σ) := by
  have ha' : 0 ≤ u ∧ u < 4294967296 := ha
  unfold Vc
  repeat' ((first | change @Bool.rec (fun _ => Prop) _ _ _ | change RP _ _ _ _ _ | change CT _ _ _ _ _ | change And _ _ | change WM _ _ _ | change Ok _ _ _ | conv => whnf); first
    | refine ForI.mk ?_
    | refine CT.rule (V := V) (F := F) (o := .lt) (a := (.k u)) (b := (.r j)) rfl hcn (by assumption) (by assumption) ?_ (fun d h => h)
    | refine And.intro (by first | decide | (first | lia | omega) | (have hl : ¬ 31 < v := of_decide_eq_false hc; (first | lia | omega))) ?_)
  all_goals first
    | exact trivial
theorem vc_better_lt_rk (V : List Int) (F : Fcs) (hcn : Con V F) (i : Nat) (v : Int) (ha : Opd.wf V.length (.r i)) (hb : Opd.wf V.length (.k v)) (σ : Sg) : Vc 12 nn272.1 nb272.1 prR [.str (O2.nm .lt), .lst [Opd.d (.r i), Opd.d (.k v)], .fac F.d] σ (RP V (.two .lt (.r i) (.k v)) σ) := by
  have hb' : 0 ≤ v ∧ v < 4294967296 := hb
  unfold Vc
  repeat' ((first | change @Bool.rec (fun _ => Prop) _ _ _ | change RP _ _ _ _ _ | change CT _ _ _ _ _ | change And _ _ | change WM _ _ _ | change Ok _ _ _ | conv => whnf); first
    | refine ForI.mk ?_
    | refine CT.rule (V := V) (F := F) (o := .lt) (a := (.r i)) (b := (.k v)) rfl hcn (by assumption) (by assumption) ?_ (fun d h => h)
    | refine And.intro (by first | decide | (first | lia | omega) | (have hl : ¬ 31 < v := of_decide_eq_false hc; (first | lia | omega))) ?_)
  all_goals first
    | exact trivial
theorem vc_better_lt_rr (V : List Int) (F : Fcs) (hcn : Con V F) (i : Nat) (j : Nat) (ha : Opd.wf V.length (.r i)) (hb : Opd.wf V.length (.r j)) (σ : Sg) : Vc 12 nn272.1 nb272.1 prR [.str (O2.nm .lt), .lst [Opd.d (.r i), Opd.d (.r j)], .fac F.d] σ (RP V (.two .lt (.r i) (.r j)) σ) := by
  unfold Vc
  repeat' ((first | change @Bool.rec (fun _ => Prop) _ _ _ | change RP _ _ _ _ _ | change CT _ _ _ _ _ | change And _ _ | change WM _ _ _ | change Ok _ _ _ | conv => whnf); first
    | refine ForI.mk ?_
    | refine CT.rule (V := V) (F := F) (o := .lt) (a := (.r i)) (b := (.r j)) rfl hcn (by assumption) (by assumption) ?_ (fun d h => h)
    | refine And.intro (by first | decide | (first | lia | omega) | (have hl : ¬ 31 < v := of_decide_eq_false hc; (first | lia | omega))) ?_)
  all_goals first
    | exact trivial
theorem vc_better_ltu_kk (V : List Int) (F : Fcs) (hcn : Con V F) (u : Int) (v : Int) (ha : Opd.wf V.length (.k u)) (hb : Opd.wf V.length (.k v)) (σ : Sg) : Vc 12 nn272.1 nb272.1 prR [.str (O2.nm .ltu), .lst [Opd.d (.k u), Opd.d (.k v)], .fac F.d] σ (RP V (.two .ltu (.k u) (.k v)) σ) := by
  have ha' : 0 ≤ u ∧ u < 4294967296 := ha
  have hb' : 0 ≤ v ∧ v < 4294967296 := hb
  unfold Vc
  repeat' ((first | change @Bool.rec (fun _ => Prop) _ _ _ | change RP _ _ _ _ _ | change CT _ _ _ _ _ | change And _ _ | change WM _ _ _ | change Ok _ _ _ | conv => whnf); first
    | refine WIf.mk (fun hc => ?_) (fun hc => ?_)
    | refine ForI.mk ?_
    | refine RP.some rfl rfl ?_
    | refine And.intro (by first | decide | (first | lia | omega) | (have hl : ¬ 31 < v := of_decide_eq_false hc; (first | lia | omega))) ?_)
  all_goals first
    | exact trivial
    | exact wk_ltu_t rfl hc
    | exact wk_ltu_f rfl hc
theorem vc_better_ltu_kr (V : List Int) (F : Fcs) (hcn : Con V F) (u : Int) (j : Nat) (ha : Opd.wf V.length (.k u)) (hb : Opd.wf V.length (.r j)) (σ : Sg) : Vc 12 nn272.1 nb272.1 prR [.str (O2.nm .ltu), .lst [Opd.d (.k u), Opd.d (.r j)], .fac F.d] σ (RP V (.two .ltu (.k u) (.r j)) σ) := by
  have ha' : 0 ≤ u ∧ u < 4294967296 := ha
  unfold Vc
  repeat' ((first | change @Bool.rec (fun _ => Prop) _ _ _ | change RP _ _ _ _ _ | change CT _ _ _ _ _ | change And _ _ | change WM _ _ _ | change Ok _ _ _ | conv => whnf); first
    | refine ForI.mk ?_
    | refine CT.rule (V := V) (F := F) (o := .ltu) (a := (.k u)) (b := (.r j)) rfl hcn (by assumption) (by assumption) ?_ (fun d h => h)
    | refine And.intro (by first | decide | (first | lia | omega) | (have hl : ¬ 31 < v := of_decide_eq_false hc; (first | lia | omega))) ?_)
  all_goals first
    | exact trivial
theorem vc_better_ltu_rk (V : List Int) (F : Fcs) (hcn : Con V F) (i : Nat) (v : Int) (ha : Opd.wf V.length (.r i)) (hb : Opd.wf V.length (.k v)) (σ : Sg) : Vc 12 nn272.1 nb272.1 prR [.str (O2.nm .ltu), .lst [Opd.d (.r i), Opd.d (.k v)], .fac F.d] σ (RP V (.two .ltu (.r i) (.k v)) σ) := by
  have hb' : 0 ≤ v ∧ v < 4294967296 := hb
  unfold Vc
  repeat' ((first | change @Bool.rec (fun _ => Prop) _ _ _ | change RP _ _ _ _ _ | change CT _ _ _ _ _ | change And _ _ | change WM _ _ _ | change Ok _ _ _ | conv => whnf); first
    | refine ForI.mk ?_
    | refine CT.rule (V := V) (F := F) (o := .ltu) (a := (.r i)) (b := (.k v)) rfl hcn (by assumption) (by assumption) ?_ (fun d h => h)
    | refine And.intro (by first | decide | (first | lia | omega) | (have hl : ¬ 31 < v := of_decide_eq_false hc; (first | lia | omega))) ?_)
  all_goals first
    | exact trivial
theorem vc_better_ltu_rr (V : List Int) (F : Fcs) (hcn : Con V F) (i : Nat) (j : Nat) (ha : Opd.wf V.length (.r i)) (hb : Opd.wf V.length (.r j)) (σ : Sg) : Vc 12 nn272.1 nb272.1 prR [.str (O2.nm .ltu), .lst [Opd.d (.r i), Opd.d (.r j)], .fac F.d] σ (RP V (.two .ltu (.r i) (.r j)) σ) := by
  unfold Vc
  repeat' ((first | change @Bool.rec (fun _ => Prop) _ _ _ | change RP _ _ _ _ _ | change CT _ _ _ _ _ | change And _ _ | change WM _ _ _ | change Ok _ _ _ | conv => whnf); first
    | refine ForI.mk ?_
    | refine CT.rule (V := V) (F := F) (o := .ltu) (a := (.r i)) (b := (.r j)) rfl hcn (by assumption) (by assumption) ?_ (fun d h => h)
    | refine And.intro (by first | decide | (first | lia | omega) | (have hl : ¬ 31 < v := of_decide_eq_false hc; (first | lia | omega))) ?_)
  all_goals first
    | exact trivial
theorem vc_better_eq_kk (V : List Int) (F : Fcs) (hcn : Con V F) (u : Int) (v : Int) (ha : Opd.wf V.length (.k u)) (hb : Opd.wf V.length (.k v)) (σ : Sg) : Vc 12 nn272.1 nb272.1 prR [.str (O2.nm .eq), .lst [Opd.d (.k u), Opd.d (.k v)], .fac F.d] σ (RP V (.two .eq (.k u) (.k v)) σ) := by
  have ha' : 0 ≤ u ∧ u < 4294967296 := ha
  have hb' : 0 ≤ v ∧ v < 4294967296 := hb
  unfold Vc
  repeat' ((first | change @Bool.rec (fun _ => Prop) _ _ _ | change RP _ _ _ _ _ | change CT _ _ _ _ _ | change And _ _ | change WM _ _ _ | change Ok _ _ _ | conv => whnf); first
    | refine WIf.mk (fun hc => ?_) (fun hc => ?_)
    | refine ForI.mk ?_
    | refine RP.some rfl rfl ?_
    | refine And.intro (by first | decide | (first | lia | omega) | (have hl : ¬ 31 < v := of_decide_eq_false hc; (first | lia | omega))) ?_)
  all_goals first
    | exact trivial
    | exact wk_eq_t rfl hc
    | exact wk_eq_f rfl hc
theorem vc_better_eq_kr (V : List Int) (F : Fcs) (hcn : Con V F) (u : Int) (j : Nat) (ha : Opd.wf V.length (.k u)) (hb : Opd.wf V.length (.r j)) (σ : Sg) : Vc 12 nn272.1 nb272.1 prR [.str (O2.nm .eq), .lst [Opd.d (.k u), Opd.d (.r j)], .fac F.d] σ (RP V (.two .eq (.k u) (.r j)) σ) := by
  have ha' : 0 ≤ u ∧ u < 4294967296 := ha
  unfold Vc
  repeat' ((first | change @Bool.rec (fun _ => Prop) _ _ _ | change RP _ _ _ _ _ | change CT _ _ _ _ _ | change And _ _ | change WM _ _ _ | change Ok _ _ _ | conv => whnf); first
    | refine ForI.mk ?_
    | refine RP.some rfl rfl ?_
    | refine And.intro (by first | decide | (first | lia | omega) | (have hl : ¬ 31 < v := of_decide_eq_false hc; (first | lia | omega))) ?_)
  all_goals first
    | exact trivial
    | exact ok_swap (by simp) ha hb
theorem vc_better_eq_rk (V : List Int) (F : Fcs) (hcn : Con V F) (i : Nat) (v : Int) (ha : Opd.wf V.length (.r i)) (hb : Opd.wf V.length (.k v)) (σ : Sg) : Vc 12 nn272.1 nb272.1 prR [.str (O2.nm .eq), .lst [Opd.d (.r i), Opd.d (.k v)], .fac F.d] σ (RP V (.two .eq (.r i) (.k v)) σ) := by
  have hb' : 0 ≤ v ∧ v < 4294967296 := hb
  unfold Vc
  repeat' ((first | change @Bool.rec (fun _ => Prop) _ _ _ | change RP _ _ _ _ _ | change CT _ _ _ _ _ | change And _ _ | change WM _ _ _ | change Ok _ _ _ | conv => whnf); first
    | refine ForI.mk ?_
    | refine CT.rule (V := V) (F := F) (o := .eq) (a := (.r i)) (b := (.k v)) rfl hcn (by assumption) (by assumption) ?_ (fun d h => h)
    | refine And.intro (by first | decide | (first | lia | omega) | (have hl : ¬ 31 < v := of_decide_eq_false hc; (first | lia | omega))) ?_)
  all_goals first
    | exact trivial
theorem vc_better_eq_rr (V : List Int) (F : Fcs) (hcn : Con V F) (i : Nat) (j : Nat) (ha : Opd.wf V.length (.r i)) (hb : Opd.wf V.length (.r j)) (σ : Sg) : Vc 12 nn272.1 nb272.1 prR [.str (O2.nm .eq), .lst [Opd.d (.r i), Opd.d (.r j)], .fac F.d] σ (RP V (.two .eq (.r i) (.r j)) σ) := by
  unfold Vc
  repeat' ((first | change @Bool.rec (fun _ => Prop) _ _ _ | change RP _ _ _ _ _ | change CT _ _ _ _ _ | change And _ _ | change WM _ _ _ | change Ok _ _ _ | conv => whnf); first
    | refine ForI.mk ?_
    | refine CT.rule (V := V) (F := F) (o := .eq) (a := (.r i)) (b := (.r j)) rfl hcn (by assumption) (by assumption) ?_ (fun d h => h)
    | refine And.intro (by first | decide | (first | lia | omega) | (have hl : ¬ 31 < v := of_decide_eq_false hc; (first | lia | omega))) ?_)
  all_goals first
    | exact trivial
theorem vc_better_ne_kk (V : List Int) (F : Fcs) (hcn : Con V F) (u : Int) (v : Int) (ha : Opd.wf V.length (.k u)) (hb : Opd.wf V.length (.k v)) (σ : Sg) : Vc 12 nn272.1 nb272.1 prR [.str (O2.nm .ne), .lst [Opd.d (.k u), Opd.d (.k v)], .fac F.d] σ (RP V (.two .ne (.k u) (.k v)) σ) := by
  have ha' : 0 ≤ u ∧ u < 4294967296 := ha
  have hb' : 0 ≤ v ∧ v < 4294967296 := hb
  unfold Vc
  repeat' ((first | change @Bool.rec (fun _ => Prop) _ _ _ | change RP _ _ _ _ _ | change CT _ _ _ _ _ | change And _ _ | change WM _ _ _ | change Ok _ _ _ | conv => whnf); first
    | refine WIf.mk (fun hc => ?_) (fun hc => ?_)
    | refine ForI.mk ?_
    | refine RP.some rfl rfl ?_
    | refine And.intro (by first | decide | (first | lia | omega) | (have hl : ¬ 31 < v := of_decide_eq_false hc; (first | lia | omega))) ?_)
  all_goals first
    | exact trivial
    | exact wk_ne_t rfl hc
    | exact wk_ne_f rfl hc
theorem vc_better_ne_kr (V : List Int) (F : Fcs) (hcn : Con V F) (u : Int) (j : Nat) (ha : Opd.wf V.length (.k u)) (hb : Opd.wf V.length (.r j)) (σ : Sg) : Vc 12 nn272.1 nb272.1 prR [.str (O2.nm .ne), .lst [Opd.d (.k u), Opd.d (.r j)], .fac F.d] σ (RP V (.two .ne (.k u) (.r j)) σ) := by
  have ha' : 0 ≤ u ∧ u < 4294967296 := ha
  unfold Vc
  repeat' ((first | change @Bool.rec (fun _ => Prop) _ _ _ | change RP _ _ _ _ _ | change CT _ _ _ _ _ | change And _ _ | change WM _ _ _ | change Ok _ _ _ | conv => whnf); first
    | refine ForI.mk ?_
    | refine RP.some rfl rfl ?_
    | refine And.intro (by first | decide | (first | lia | omega) | (have hl : ¬ 31 < v := of_decide_eq_false hc; (first | lia | omega))) ?_)
  all_goals first
    | exact trivial
    | exact ok_swap (by simp) ha hb
theorem vc_better_ne_rk (V : List Int) (F : Fcs) (hcn : Con V F) (i : Nat) (v : Int) (ha : Opd.wf V.length (.r i)) (hb : Opd.wf V.length (.k v)) (σ : Sg) : Vc 12 nn272.1 nb272.1 prR [.str (O2.nm .ne), .lst [Opd.d (.r i), Opd.d (.k v)], .fac F.d] σ (RP V (.two .ne (.r i) (.k v)) σ) := by
  have hb' : 0 ≤ v ∧ v < 4294967296 := hb
  unfold Vc
  repeat' ((first | change @Bool.rec (fun _ => Prop) _ _ _ | change RP _ _ _ _ _ | change CT _ _ _ _ _ | change And _ _ | change WM _ _ _ | change Ok _ _ _ | conv => whnf); first
    | refine ForI.mk ?_
    | refine CT.rule (V := V) (F := F) (o := .ne) (a := (.r i)) (b := (.k v)) rfl hcn (by assumption) (by assumption) ?_ (fun d h => h)
    | refine And.intro (by first | decide | (first | lia | omega) | (have hl : ¬ 31 < v := of_decide_eq_false hc; (first | lia | omega))) ?_)
  all_goals first
    | exact trivial
theorem vc_better_ne_rr (V : List Int) (F : Fcs) (hcn : Con V F) (i : Nat) (j : Nat) (ha : Opd.wf V.length (.r i)) (hb : Opd.wf V.length (.r j)) (σ : Sg) : Vc 12 nn272.1 nb272.1 prR [.str (O2.nm .ne), .lst [Opd.d (.r i), Opd.d (.r j)], .fac F.d] σ (RP V (.two .ne (.r i) (.r j)) σ) := by
  unfold Vc
  repeat' ((first | change @Bool.rec (fun _ => Prop) _ _ _ | change RP _ _ _ _ _ | change CT _ _ _ _ _ | change And _ _ | change WM _ _ _ | change Ok _ _ _ | conv => whnf); first
    | refine ForI.mk ?_
    | refine CT.rule (V := V) (F := F) (o := .ne) (a := (.r i)) (b := (.r j)) rfl hcn (by assumption) (by assumption) ?_ (fun d h => h)
    | refine And.intro (by first | decide | (first | lia | omega) | (have hl : ¬ 31 < v := of_decide_eq_false hc; (first | lia | omega))) ?_)
  all_goals first
    | exact trivial
theorem vc_better_neg_k (V : List Int) (F : Fcs) (hcn : Con V F) (u : Int) (ha : Opd.wf V.length (.k u)) (σ : Sg) : Vc 12 nn272.1 nb272.1 prR [.str (O1.nm .neg), .lst [Opd.d (.k u)], .fac F.d] σ (RP V (.one .neg (.k u)) σ) := by
  have ha' : 0 ≤ u ∧ u < 4294967296 := ha
  unfold Vc
  repeat' ((first | change @Bool.rec (fun _ => Prop) _ _ _ | change RP _ _ _ _ _ | change CT _ _ _ _ _ | change And _ _ | change WM _ _ _ | change Ok _ _ _ | conv => whnf); first
    | refine ForI.mk ?_
    | refine RP.some rfl rfl ?_
    | refine And.intro (by first | decide | (first | lia | omega)) ?_)
  all_goals first
    | exact trivial
    | exact wk_neg
theorem vc_better_neg_r (V : List Int) (F : Fcs) (hcn : Con V F) (i : Nat) (ha : Opd.wf V.length (.r i)) (σ : Sg) : Vc 12 nn272.1 nb272.1 prR [.str (O1.nm .neg), .lst [Opd.d (.r i)], .fac F.d] σ (RP V (.one .neg (.r i)) σ) := by
  unfold Vc
  repeat' ((first | change @Bool.rec (fun _ => Prop) _ _ _ | change RP _ _ _ _ _ | change CT _ _ _ _ _ | change And _ _ | change WM _ _ _ | change Ok _ _ _ | conv => whnf); first
    | refine ForI.mk ?_
    | refine CT.rule1 (V := V) (F := F) (o := .neg) (i := i) rfl hcn (by assumption) (fun d h => h)
    | refine And.intro (by first | decide | (first | lia | omega)) ?_)
  all_goals first
    | exact trivial
theorem vc_better_not_k (V : List Int) (F : Fcs) (hcn : Con V F) (u : Int) (ha : Opd.wf V.length (.k u)) (σ : Sg) : Vc 12 nn272.1 nb272.1 prR [.str (O1.nm .not), .lst [Opd.d (.k u)], .fac F.d] σ (RP V (.one .not (.k u)) σ) := by
  have ha' : 0 ≤ u ∧ u < 4294967296 := ha
  unfold Vc
  repeat' ((first | change @Bool.rec (fun _ => Prop) _ _ _ | change RP _ _ _ _ _ | change CT _ _ _ _ _ | change And _ _ | change WM _ _ _ | change Ok _ _ _ | conv => whnf); first
    | refine ForI.mk ?_
    | refine RP.some rfl rfl ?_
    | refine And.intro (by first | decide | (first | lia | omega)) ?_)
  all_goals first
    | exact trivial
    | exact wk_not ha
theorem vc_better_not_r (V : List Int) (F : Fcs) (hcn : Con V F) (i : Nat) (ha : Opd.wf V.length (.r i)) (σ : Sg) : Vc 12 nn272.1 nb272.1 prR [.str (O1.nm .not), .lst [Opd.d (.r i)], .fac F.d] σ (RP V (.one .not (.r i)) σ) := by
  unfold Vc
  repeat' ((first | change @Bool.rec (fun _ => Prop) _ _ _ | change RP _ _ _ _ _ | change CT _ _ _ _ _ | change And _ _ | change WM _ _ _ | change Ok _ _ _ | conv => whnf); first
    | refine ForI.mk ?_
    | refine CT.rule1 (V := V) (F := F) (o := .not) (i := i) rfl hcn (by assumption) (fun d h => h)
    | refine And.intro (by first | decide | (first | lia | omega)) ?_)
  all_goals first
    | exact trivial
theorem vc_better_sx8_k (V : List Int) (F : Fcs) (hcn : Con V F) (u : Int) (ha : Opd.wf V.length (.k u)) (σ : Sg) : Vc 12 nn272.1 nb272.1 prR [.str (O1.nm .sx8), .lst [Opd.d (.k u)], .fac F.d] σ (RP V (.one .sx8 (.k u)) σ) := by
  have ha' : 0 ≤ u ∧ u < 4294967296 := ha
  unfold Vc
  repeat' ((first | change @Bool.rec (fun _ => Prop) _ _ _ | change RP _ _ _ _ _ | change CT _ _ _ _ _ | change And _ _ | change WM _ _ _ | change Ok _ _ _ | conv => whnf); first
    | refine WIf.mk (fun hc => ?_) (fun hc => ?_)
    | refine ForI.mk ?_
    | refine RP.some rfl rfl ?_
    | refine And.intro (by first | decide | (first | lia | omega)) ?_)
  all_goals first
    | exact trivial
    | exact wk_s8t hc
    | exact wk_s8f hc
theorem vc_better_sx8_r (V : List Int) (F : Fcs) (hcn : Con V F) (i : Nat) (ha : Opd.wf V.length (.r i)) (σ : Sg) : Vc 12 nn272.1 nb272.1 prR [.str (O1.nm .sx8), .lst [Opd.d (.r i)], .fac F.d] σ (RP V (.one .sx8 (.r i)) σ) := by
  unfold Vc
  repeat' ((first | change @Bool.rec (fun _ => Prop) _ _ _ | change RP _ _ _ _ _ | change CT _ _ _ _ _ | change And _ _ | change WM _ _ _ | change Ok _ _ _ | conv => whnf); first
    | refine ForI.mk ?_
    | refine CT.rule1 (V := V) (F := F) (o := .sx8) (i := i) rfl hcn (by assumption) (fun d h => h)
    | refine And.intro (by first | decide | (first | lia | omega)) ?_)
  all_goals first
    | exact trivial
theorem vc_better_sx16_k (V : List Int) (F : Fcs) (hcn : Con V F) (u : Int) (ha : Opd.wf V.length (.k u)) (σ : Sg) : Vc 12 nn272.1 nb272.1 prR [.str (O1.nm .sx16), .lst [Opd.d (.k u)], .fac F.d] σ (RP V (.one .sx16 (.k u)) σ) := by
  have ha' : 0 ≤ u ∧ u < 4294967296 := ha
  unfold Vc
  repeat' ((first | change @Bool.rec (fun _ => Prop) _ _ _ | change RP _ _ _ _ _ | change CT _ _ _ _ _ | change And _ _ | change WM _ _ _ | change Ok _ _ _ | conv => whnf); first
    | refine WIf.mk (fun hc => ?_) (fun hc => ?_)
    | refine ForI.mk ?_
    | refine RP.some rfl rfl ?_
    | refine And.intro (by first | decide | (first | lia | omega)) ?_)
  all_goals first
    | exact trivial
    | exact wk_s16t hc
    | exact wk_s16f hc
theorem vc_better_sx16_r (V : List Int) (F : Fcs) (hcn : Con V F) (i : Nat) (ha : Opd.wf V.length (.r i)) (σ : Sg) : Vc 12 nn272.1 nb272.1 prR [.str (O1.nm .sx16), .lst [Opd.d (.r i)], .fac F.d] σ (RP V (.one .sx16 (.r i)) σ) := by
  unfold Vc
  repeat' ((first | change @Bool.rec (fun _ => Prop) _ _ _ | change RP _ _ _ _ _ | change CT _ _ _ _ _ | change And _ _ | change WM _ _ _ | change Ok _ _ _ | conv => whnf); first
    | refine ForI.mk ?_
    | refine CT.rule1 (V := V) (F := F) (o := .sx16) (i := i) rfl hcn (by assumption) (fun d h => h)
    | refine And.intro (by first | decide | (first | lia | omega)) ?_)
  all_goals first
    | exact trivial
theorem vc_better_zx8_k (V : List Int) (F : Fcs) (hcn : Con V F) (u : Int) (ha : Opd.wf V.length (.k u)) (σ : Sg) : Vc 12 nn272.1 nb272.1 prR [.str (O1.nm .zx8), .lst [Opd.d (.k u)], .fac F.d] σ (RP V (.one .zx8 (.k u)) σ) := by
  have ha' : 0 ≤ u ∧ u < 4294967296 := ha
  unfold Vc
  repeat' ((first | change @Bool.rec (fun _ => Prop) _ _ _ | change RP _ _ _ _ _ | change CT _ _ _ _ _ | change And _ _ | change WM _ _ _ | change Ok _ _ _ | conv => whnf); first
    | refine ForI.mk ?_
    | refine RP.some rfl rfl ?_
    | refine And.intro (by first | decide | (first | lia | omega)) ?_)
  all_goals first
    | exact trivial
    | exact wk_z8
theorem vc_better_zx8_r (V : List Int) (F : Fcs) (hcn : Con V F) (i : Nat) (ha : Opd.wf V.length (.r i)) (σ : Sg) : Vc 12 nn272.1 nb272.1 prR [.str (O1.nm .zx8), .lst [Opd.d (.r i)], .fac F.d] σ (RP V (.one .zx8 (.r i)) σ) := by
  unfold Vc
  repeat' ((first | change @Bool.rec (fun _ => Prop) _ _ _ | change RP _ _ _ _ _ | change CT _ _ _ _ _ | change And _ _ | change WM _ _ _ | change Ok _ _ _ | conv => whnf); first
    | refine ForI.mk ?_
    | refine CT.rule1 (V := V) (F := F) (o := .zx8) (i := i) rfl hcn (by assumption) (fun d h => h)
    | refine And.intro (by first | decide | (first | lia | omega)) ?_)
  all_goals first
    | exact trivial
theorem vc_better_zx16_k (V : List Int) (F : Fcs) (hcn : Con V F) (u : Int) (ha : Opd.wf V.length (.k u)) (σ : Sg) : Vc 12 nn272.1 nb272.1 prR [.str (O1.nm .zx16), .lst [Opd.d (.k u)], .fac F.d] σ (RP V (.one .zx16 (.k u)) σ) := by
  have ha' : 0 ≤ u ∧ u < 4294967296 := ha
  unfold Vc
  repeat' ((first | change @Bool.rec (fun _ => Prop) _ _ _ | change RP _ _ _ _ _ | change CT _ _ _ _ _ | change And _ _ | change WM _ _ _ | change Ok _ _ _ | conv => whnf); first
    | refine ForI.mk ?_
    | refine RP.some rfl rfl ?_
    | refine And.intro (by first | decide | (first | lia | omega)) ?_)
  all_goals first
    | exact trivial
    | exact wk_z16
theorem vc_better_zx16_r (V : List Int) (F : Fcs) (hcn : Con V F) (i : Nat) (ha : Opd.wf V.length (.r i)) (σ : Sg) : Vc 12 nn272.1 nb272.1 prR [.str (O1.nm .zx16), .lst [Opd.d (.r i)], .fac F.d] σ (RP V (.one .zx16 (.r i)) σ) := by
  unfold Vc
  repeat' ((first | change @Bool.rec (fun _ => Prop) _ _ _ | change RP _ _ _ _ _ | change CT _ _ _ _ _ | change And _ _ | change WM _ _ _ | change Ok _ _ _ | conv => whnf); first
    | refine ForI.mk ?_
    | refine CT.rule1 (V := V) (F := F) (o := .zx16) (i := i) rfl hcn (by assumption) (fun d h => h)
    | refine And.intro (by first | decide | (first | lia | omega)) ?_)
  all_goals first
    | exact trivial
end Mine.Internal

end
section
open PySem PySem.W PyProof.Rows PySem.Calls
set_option Elab.async false
set_option tactic.hygienic false
set_option maxRecDepth 100000
set_option maxHeartbeats 4000000
set_option linter.all false
set_option backward.match.sparseCases false
set_option bootstrap.genMatcherCode false
namespace Mine.Internal
noncomputable def riT : Expr := match (show List Stmt from nb445.1)[3]? with
  | some (Stmt.For t _ _ _ _) => t
  | _ => .Name ⟨#[]⟩ ⟨0, 0, 0, 0⟩
noncomputable def riB : List Stmt := match (show List Stmt from nb445.1)[3]? with
  | some (Stmt.For _ _ b _ _) => b
  | _ => []
theorem right_some (V : List Int) (F : Fcs) (hcn : Con V F) (hV : AllV V) (s : Shp) (sd : D) (z : Int) (hz : s.sem V = some z) {d : D} (hd : FdP V s 0 d) {σ : Sg} {K : En → Sg → Prop} :
    loopW (fun d ρ K => tgtW ⟨nn445.1, []⟩ riT d ρ K) (fun ρ σ1 K => Rc.ss (WR (gx 13) 55) ⟨nn445.1, []⟩ riB ρ σ1 K (TrP σ)) (rangeD 24) ((⟨#[102, 111, 117, 110, 100]⟩, d) :: (⟨#[100, 117, 101]⟩, .lst [.int z]) :: pz [⟨#[102, 97, 99, 116, 115]⟩, ⟨#[115, 104, 97, 112, 101]⟩, ⟨#[118, 97, 108, 117, 101, 115]⟩] [.fac F.d, sd, .lst (V.map D.int)]) σ K := by
  refine loop_range (n := 24) (fun i ρ s' => s' = σ ∧ ∃ d, FdP V s i d ∧ ρ = (⟨#[102, 111, 117, 110, 100]⟩, d) :: (⟨#[100, 117, 101]⟩, .lst [.int z]) :: pz [⟨#[102, 97, 99, 116, 115]⟩, ⟨#[115, 104, 97, 112, 101]⟩, ⟨#[118, 97, 108, 117, 101, 115]⟩] [.fac F.d, sd, .lst (V.map D.int)]) ⟨rfl, _, hd, rfl⟩ (fun i ρ s' hi hI K' hK => ?_) fun ρ s' hI => ?_
  · rcases hI with ⟨rfl, d, hfd, rfl⟩
    cases hfd with
    | none h => conv => whnf
                exact TrP.mk
    | @some s1 hw1 hn1 hs1 hp1 =>
      cases s1
      case load => exact (hn1 _ _ rfl).elim
      all_goals repeat' ((first | change @Bool.rec (fun _ => Prop) _ _ _ | change RP _ _ _ _ _ | change CT _ _ _ _ _ | change And _ _ | change WM _ _ _ | change Ok _ _ _ | conv => whnf); first
        | refine told_is (V := V) (s := .two _ _ _) rfl hV hw1 hn1 (hs1 _ hz) ?_
        | refine told_is (V := V) (s := .one _ _) rfl hV hw1 hn1 (hs1 _ hz) ?_
        | refine told_is (V := V) (s := .name _ _) rfl hV hw1 hn1 (hs1 _ hz) ?_
        | refine told_is (V := V) (s := .const _) rfl hV hw1 hn1 (hs1 _ hz) ?_
        | refine told_is (V := V) (s := .copy _) rfl hV hw1 hn1 (hs1 _ hz) ?_
        | refine WIf.off (ne_self z) ?_
        | refine CT.better (V := V) (F := F) (s := .two _ _ _) rfl hcn hw1 hn1 (fun d hb => ?_)
        | refine CT.better (V := V) (F := F) (s := .one _ _) rfl hcn hw1 hn1 (fun d hb => ?_)
        | refine CT.better (V := V) (F := F) (s := .name _ _) rfl hcn hw1 hn1 (fun d hb => ?_)
        | refine CT.better (V := V) (F := F) (s := .const _) rfl hcn hw1 hn1 (fun d hb => ?_)
        | refine CT.better (V := V) (F := F) (s := .copy _) rfl hcn hw1 hn1 (fun d hb => ?_)
        | exact hK _ _ ⟨rfl, d, FdP.next hs1 hp1 hb, rfl⟩
        | refine WIf.off (by with_reducible assumption) ?_
        | refine And.intro (by first | decide | (first | lia | omega)) ?_)
  · obtain ⟨_, d, hd, _⟩ := hI
    exact hd.end
theorem right_none (V : List Int) (F : Fcs) (hcn : Con V F) (hV : AllV V) (s : Shp) (sd : D) {d : D} (hd : FdP V s 0 d) {σ : Sg} {K : En → Sg → Prop} :
    loopW (fun d ρ K => tgtW ⟨nn445.1, []⟩ riT d ρ K) (fun ρ σ1 K => Rc.ss (WR (gx 13) 55) ⟨nn445.1, []⟩ riB ρ σ1 K (TrP σ)) (rangeD 24) ((⟨#[102, 111, 117, 110, 100]⟩, d) :: (⟨#[100, 117, 101]⟩, .lst []) :: pz [⟨#[102, 97, 99, 116, 115]⟩, ⟨#[115, 104, 97, 112, 101]⟩, ⟨#[118, 97, 108, 117, 101, 115]⟩] [.fac F.d, sd, .lst (V.map D.int)]) σ K := by
  refine loop_range (n := 24) (fun i ρ s' => s' = σ ∧ ∃ d, FdP V s i d ∧ ρ = (⟨#[102, 111, 117, 110, 100]⟩, d) :: (⟨#[100, 117, 101]⟩, .lst []) :: pz [⟨#[102, 97, 99, 116, 115]⟩, ⟨#[115, 104, 97, 112, 101]⟩, ⟨#[118, 97, 108, 117, 101, 115]⟩] [.fac F.d, sd, .lst (V.map D.int)]) ⟨rfl, _, hd, rfl⟩ (fun i ρ s' hi hI K' hK => ?_) fun ρ s' hI => ?_
  · rcases hI with ⟨rfl, d, hfd, rfl⟩
    cases hfd with
    | none h => conv => whnf
                exact TrP.mk
    | @some s1 hw1 hn1 hs1 hp1 =>
      cases s1
      case load => exact (hn1 _ _ rfl).elim
      all_goals repeat' ((first | change @Bool.rec (fun _ => Prop) _ _ _ | change RP _ _ _ _ _ | change CT _ _ _ _ _ | change And _ _ | change WM _ _ _ | change Ok _ _ _ | conv => whnf); first
        | refine CT.better (V := V) (F := F) (s := .two _ _ _) rfl hcn hw1 hn1 (fun d hb => ?_)
        | refine CT.better (V := V) (F := F) (s := .one _ _) rfl hcn hw1 hn1 (fun d hb => ?_)
        | refine CT.better (V := V) (F := F) (s := .name _ _) rfl hcn hw1 hn1 (fun d hb => ?_)
        | refine CT.better (V := V) (F := F) (s := .const _) rfl hcn hw1 hn1 (fun d hb => ?_)
        | refine CT.better (V := V) (F := F) (s := .copy _) rfl hcn hw1 hn1 (fun d hb => ?_)
        | exact hK _ _ ⟨rfl, d, FdP.next hs1 hp1 hb, rfl⟩
        | refine And.intro (by first | decide | (first | lia | omega)) ?_)
  · obtain ⟨_, d, hd, _⟩ := hI
    exact hd.end
theorem vc_right_one_some (V : List Int) (F : Fcs) (hcn : Con V F) (hV : AllV V) (o : O1) (a : Opd)  (hw : ((.one o a) : Shp).wf V.length) (z : Int) (hz : ((.one o a) : Shp).sem V = some z) (σ : Sg) : Vc 13 nn445.1 nb445.1 [⟨#[102, 97, 99, 116, 115]⟩, ⟨#[115, 104, 97, 112, 101]⟩, ⟨#[118, 97, 108, 117, 101, 115]⟩] [.fac F.d, Shp.d (.one o a), .lst (V.map D.int)] σ (TrP σ) := by
  have hnl : ∀ w g, ((.one o a) : Shp) ≠ .load w g := fun _ _ e => nomatch e
  have hphi := phi_le hcn.len hw
  unfold Vc
  repeat' ((first | change @Bool.rec (fun _ => Prop) _ _ _ | change RP _ _ _ _ _ | change CT _ _ _ _ _ | change And _ _ | change WM _ _ _ | change Ok _ _ _ | conv => whnf); first
    | refine told_is (V := V) (s := (.one o a)) rfl hV hw hnl hz ?_
    | refine CT.better (V := V) (F := F) (s := (.one o a)) rfl hcn hw hnl (fun d hb => ?_)
    | refine WIf.off (dv_one _) ?_
    | refine And.intro ⟨by decide, by decide⟩ (.mk (right_some V F hcn hV (.one o a) _ z hz (FdP.first hb hphi)))
    | refine WIf.off (by with_reducible assumption) ?_
    | refine ForI.mk ?_
    | refine And.intro (by first | decide | (first | lia | omega)) ?_)
theorem vc_right_nd_some (V : List Int) (F : Fcs) (hcn : Con V F) (hV : AllV V) (o : O2) (a b : Opd) (hd : isDv o = false) (hw : ((.two o a b) : Shp).wf V.length) (z : Int) (hz : ((.two o a b) : Shp).sem V = some z) (σ : Sg) : Vc 13 nn445.1 nb445.1 [⟨#[102, 97, 99, 116, 115]⟩, ⟨#[115, 104, 97, 112, 101]⟩, ⟨#[118, 97, 108, 117, 101, 115]⟩] [.fac F.d, Shp.d (.two o a b), .lst (V.map D.int)] σ (TrP σ) := by
  have hnl : ∀ w g, ((.two o a b) : Shp) ≠ .load w g := fun _ _ e => nomatch e
  have hphi := phi_le hcn.len hw
  unfold Vc
  repeat' ((first | change @Bool.rec (fun _ => Prop) _ _ _ | change RP _ _ _ _ _ | change CT _ _ _ _ _ | change And _ _ | change WM _ _ _ | change Ok _ _ _ | conv => whnf); first
    | refine told_is (V := V) (s := (.two o a b)) rfl hV hw hnl hz ?_
    | refine CT.better (V := V) (F := F) (s := (.two o a b)) rfl hcn hw hnl (fun d hb => ?_)
    | refine WIf.off (dv_no hd) ?_
    | refine And.intro ⟨by decide, by decide⟩ (.mk (right_some V F hcn hV (.two o a b) _ z hz (FdP.first hb hphi)))
    | refine WIf.off (by with_reducible assumption) ?_
    | refine ForI.mk ?_
    | refine And.intro (by first | decide | (first | lia | omega)) ?_)
theorem vc_right_dvk_some (V : List Int) (F : Fcs) (hcn : Con V F) (hV : AllV V) (o : O2) (a : Opd) (v : Int) (hd : isDv o = true) (h0 : Opd.k v ≠ .k 0) (hw : ((.two o a (.k v)) : Shp).wf V.length) (z : Int) (hz : ((.two o a (.k v)) : Shp).sem V = some z) (σ : Sg) : Vc 13 nn445.1 nb445.1 [⟨#[102, 97, 99, 116, 115]⟩, ⟨#[115, 104, 97, 112, 101]⟩, ⟨#[118, 97, 108, 117, 101, 115]⟩] [.fac F.d, Shp.d (.two o a (.k v)), .lst (V.map D.int)] σ (TrP σ) := by
  have hnl : ∀ w g, ((.two o a (.k v)) : Shp) ≠ .load w g := fun _ _ e => nomatch e
  have hphi := phi_le hcn.len hw
  unfold Vc
  repeat' ((first | change @Bool.rec (fun _ => Prop) _ _ _ | change RP _ _ _ _ _ | change CT _ _ _ _ _ | change And _ _ | change WM _ _ _ | change Ok _ _ _ | conv => whnf); first
    | refine told_is (V := V) (s := (.two o a (.k v))) rfl hV hw hnl hz ?_
    | refine CT.better (V := V) (F := F) (s := (.two o a (.k v))) rfl hcn hw hnl (fun d hb => ?_)
    | refine WIf.on (dv_yes hd) ?_
    | refine WIf.off (not0 h0) ?_
    | refine And.intro ⟨by decide, by decide⟩ (.mk (right_some V F hcn hV (.two o a (.k v)) _ z hz (FdP.first hb hphi)))
    | refine WIf.on (by with_reducible assumption) ?_
    | refine WIf.off (by with_reducible assumption) ?_
    | refine ForI.mk ?_
    | refine And.intro (by first | decide | (first | lia | omega)) ?_)
theorem vc_right_dvr_some (V : List Int) (F : Fcs) (hcn : Con V F) (hV : AllV V) (o : O2) (a : Opd) (jj : Nat) (hd : isDv o = true) (hw : ((.two o a (.r jj)) : Shp).wf V.length) (z : Int) (hz : ((.two o a (.r jj)) : Shp).sem V = some z) (σ : Sg) : Vc 13 nn445.1 nb445.1 [⟨#[102, 97, 99, 116, 115]⟩, ⟨#[115, 104, 97, 112, 101]⟩, ⟨#[118, 97, 108, 117, 101, 115]⟩] [.fac F.d, Shp.d (.two o a (.r jj)), .lst (V.map D.int)] σ (TrP σ) := by
  have hnl : ∀ w g, ((.two o a (.r jj)) : Shp) ≠ .load w g := fun _ _ e => nomatch e
  have hphi := phi_le hcn.len hw
  unfold Vc
  repeat' ((first | change @Bool.rec (fun _ => Prop) _ _ _ | change RP _ _ _ _ _ | change CT _ _ _ _ _ | change And _ _ | change WM _ _ _ | change Ok _ _ _ | conv => whnf); first
    | refine told_is (V := V) (s := (.two o a (.r jj))) rfl hV hw hnl hz ?_
    | refine CT.better (V := V) (F := F) (s := (.two o a (.r jj))) rfl hcn hw hnl (fun d hb => ?_)
    | refine WIf.on (dv_yes hd) ?_
    | refine And.intro ⟨by decide, by decide⟩ (.mk (right_some V F hcn hV (.two o a (.r jj)) _ z hz (FdP.first hb hphi)))
    | refine WIf.on (by with_reducible assumption) ?_
    | refine ForI.mk ?_
    | refine And.intro (by first | decide | (first | lia | omega)) ?_)
theorem vc_right_dvk_none (V : List Int) (F : Fcs) (hcn : Con V F) (hV : AllV V) (o : O2) (a : Opd) (v : Int) (hd : isDv o = true) (h0 : Opd.k v ≠ .k 0) (hw : ((.two o a (.k v)) : Shp).wf V.length) (hz : ((.two o a (.k v)) : Shp).sem V = none) (σ : Sg) : Vc 13 nn445.1 nb445.1 [⟨#[102, 97, 99, 116, 115]⟩, ⟨#[115, 104, 97, 112, 101]⟩, ⟨#[118, 97, 108, 117, 101, 115]⟩] [.fac F.d, Shp.d (.two o a (.k v)), .lst (V.map D.int)] σ (TrP σ) := by
  have hnl : ∀ w g, ((.two o a (.k v)) : Shp) ≠ .load w g := fun _ _ e => nomatch e
  have hphi := phi_le hcn.len hw
  unfold Vc
  repeat' ((first | change @Bool.rec (fun _ => Prop) _ _ _ | change RP _ _ _ _ _ | change CT _ _ _ _ _ | change And _ _ | change WM _ _ _ | change Ok _ _ _ | conv => whnf); first
    | refine CT.ltold (V := V) (s := (.two o a (.k v))) rfl hV hw hnl (fun _ => ?_) (fun _ e _ => absurd (hz.symm.trans e) (fun q => nomatch q))
    | refine CT.better (V := V) (F := F) (s := (.two o a (.k v))) rfl hcn hw hnl (fun d hb => ?_)
    | refine WIf.on (dv_yes hd) ?_
    | refine WIf.off (not0 h0) ?_
    | refine And.intro ⟨by decide, by decide⟩ (.mk (right_none V F hcn hV (.two o a (.k v)) _ (FdP.first hb hphi)))
    | refine WIf.on (by with_reducible assumption) ?_
    | refine WIf.off (by with_reducible assumption) ?_
    | refine ForI.mk ?_
    | refine And.intro (by first | decide | (first | lia | omega)) ?_)
theorem vc_right_dvr_none (V : List Int) (F : Fcs) (hcn : Con V F) (hV : AllV V) (o : O2) (a : Opd) (jj : Nat) (hd : isDv o = true) (hw : ((.two o a (.r jj)) : Shp).wf V.length) (hz : ((.two o a (.r jj)) : Shp).sem V = none) (σ : Sg) : Vc 13 nn445.1 nb445.1 [⟨#[102, 97, 99, 116, 115]⟩, ⟨#[115, 104, 97, 112, 101]⟩, ⟨#[118, 97, 108, 117, 101, 115]⟩] [.fac F.d, Shp.d (.two o a (.r jj)), .lst (V.map D.int)] σ (TrP σ) := by
  have hnl : ∀ w g, ((.two o a (.r jj)) : Shp) ≠ .load w g := fun _ _ e => nomatch e
  have hphi := phi_le hcn.len hw
  unfold Vc
  repeat' ((first | change @Bool.rec (fun _ => Prop) _ _ _ | change RP _ _ _ _ _ | change CT _ _ _ _ _ | change And _ _ | change WM _ _ _ | change Ok _ _ _ | conv => whnf); first
    | refine CT.ltold (V := V) (s := (.two o a (.r jj))) rfl hV hw hnl (fun _ => ?_) (fun _ e _ => absurd (hz.symm.trans e) (fun q => nomatch q))
    | refine CT.better (V := V) (F := F) (s := (.two o a (.r jj))) rfl hcn hw hnl (fun d hb => ?_)
    | refine WIf.on (dv_yes hd) ?_
    | refine And.intro ⟨by decide, by decide⟩ (.mk (right_none V F hcn hV (.two o a (.r jj)) _ (FdP.first hb hphi)))
    | refine WIf.on (by with_reducible assumption) ?_
    | refine ForI.mk ?_
    | refine And.intro (by first | decide | (first | lia | omega)) ?_)
theorem vc_right_d0_none (V : List Int) (F : Fcs) (hcn : Con V F) (hV : AllV V) (o : O2) (a : Opd) (hd : isDv o = true) (hw : ((.two o a (.k 0)) : Shp).wf V.length) (hz : ((.two o a (.k 0)) : Shp).sem V = none) (σ : Sg) : Vc 13 nn445.1 nb445.1 [⟨#[102, 97, 99, 116, 115]⟩, ⟨#[115, 104, 97, 112, 101]⟩, ⟨#[118, 97, 108, 117, 101, 115]⟩] [.fac F.d, Shp.d (.two o a (.k 0)), .lst (V.map D.int)] σ (TrP σ) := by
  have hnl : ∀ w g, ((.two o a (.k 0)) : Shp) ≠ .load w g := fun _ _ e => nomatch e
  have hphi := phi_le hcn.len hw
  unfold Vc
  repeat' ((first | change @Bool.rec (fun _ => Prop) _ _ _ | change RP _ _ _ _ _ | change CT _ _ _ _ _ | change And _ _ | change WM _ _ _ | change Ok _ _ _ | conv => whnf); first
    | exact TrP.mk
    | refine CT.ltold (V := V) (s := (.two o a (.k 0))) rfl hV hw hnl (fun _ => ?_) (fun _ e _ => absurd (hz.symm.trans e) (fun q => nomatch q))
    | refine CT.better0 (V := V) (F := F) (o := o) (a := a) rfl hcn hw.1 (dv_or hd) ?_
    | refine WIf.on (dv_yes hd) ?_
    | refine WIf.on (by with_reducible assumption) ?_
    | refine And.intro (by first | decide | (first | lia | omega)) ?_)
end Mine.Internal

end
section
open PySem PySem.W PyProof.Rows PySem.Calls
set_option Elab.async false
set_option tactic.hygienic false
set_option maxRecDepth 100000
set_option maxHeartbeats 4000000
set_option linter.all false
set_option backward.match.sparseCases false
set_option bootstrap.genMatcherCode false
namespace Mine.Internal
theorem ok_ck {V : List Int} {u : Int} (ha : Opd.wf V.length (.k u)) : Ok V (.copy (.k u)) (.const (.k u)) := ⟨ha, (fun _ _ h => by cases h), fun _ h => h, Nat.zero_lt_one⟩
theorem vc_better_copy_k (V : List Int) (F : Fcs) (u : Int) (ha : Opd.wf V.length (.k u)) (σ : Sg) : Vc 12 nn272.1 nb272.1 prR [.str ⟨#[99, 111, 112, 121]⟩, .lst [Opd.d (.k u)], .fac F.d] σ (RP V (.copy (.k u)) σ) := by
  unfold Vc
  repeat' ((first | change @Bool.rec (fun _ => Prop) _ _ _ | change RP _ _ _ _ _ | change CT _ _ _ _ _ | change And _ _ | change WM _ _ _ | change Ok _ _ _ | conv => whnf); first
    | refine RP.some rfl rfl ?_
    | refine And.intro (by first | decide | (first | lia | omega)) ?_)
  all_goals exact ok_ck ha
theorem vc_better_copy_r (V : List Int) (F : Fcs) (i : Nat)  (σ : Sg) : Vc 12 nn272.1 nb272.1 prR [.str ⟨#[99, 111, 112, 121]⟩, .lst [Opd.d (.r i)], .fac F.d] σ (RP V (.copy (.r i)) σ) := by
  unfold Vc
  repeat' ((first | change @Bool.rec (fun _ => Prop) _ _ _ | change RP _ _ _ _ _ | change CT _ _ _ _ _ | change And _ _ | change WM _ _ _ | change Ok _ _ _ | conv => whnf); first
    | exact RP.none
    | refine And.intro (by first | decide | (first | lia | omega)) ?_)

theorem vc_better_const_k (V : List Int) (F : Fcs) (u : Int)  (σ : Sg) : Vc 12 nn272.1 nb272.1 prR [.str ⟨#[99, 111, 110, 115, 116]⟩, .lst [Opd.d (.k u)], .fac F.d] σ (RP V (.const (.k u)) σ) := by
  unfold Vc
  repeat' ((first | change @Bool.rec (fun _ => Prop) _ _ _ | change RP _ _ _ _ _ | change CT _ _ _ _ _ | change And _ _ | change WM _ _ _ | change Ok _ _ _ | conv => whnf); first
    | refine ForI.mk ?_
    | exact RP.none
    | refine And.intro (by first | decide | (first | lia | omega)) ?_)

theorem vc_better_const_r (V : List Int) (F : Fcs) (i : Nat)  (σ : Sg) : Vc 12 nn272.1 nb272.1 prR [.str ⟨#[99, 111, 110, 115, 116]⟩, .lst [Opd.d (.r i)], .fac F.d] σ (RP V (.const (.r i)) σ) := by
  unfold Vc
  repeat' ((first | change @Bool.rec (fun _ => Prop) _ _ _ | change RP _ _ _ _ _ | change CT _ _ _ _ _ | change And _ _ | change WM _ _ _ | change Ok _ _ _ | conv => whnf); first
    | refine ForI.mk ?_
    | exact RP.none
    | refine And.intro (by first | decide | (first | lia | omega)) ?_)

theorem vc_better_name (V : List Int) (F : Fcs) (y : Bool) (off : Int)  (σ : Sg) : Vc 12 nn272.1 nb272.1 prR [.str ⟨#[110, 97, 109, 101]⟩, .lst [], .fac F.d] σ (RP V (.name y off) σ) := by
  unfold Vc
  repeat' ((first | change @Bool.rec (fun _ => Prop) _ _ _ | change RP _ _ _ _ _ | change CT _ _ _ _ _ | change And _ _ | change WM _ _ _ | change Ok _ _ _ | conv => whnf); first
    | refine ForI.mk ?_
    | exact RP.none
    | refine And.intro (by first | decide | (first | lia | omega)) ?_)

end Mine.Internal

end
section
open PySem PySem.W PyProof.Rows PySem.Calls
set_option Elab.async false
set_option tactic.hygienic false
set_option maxRecDepth 100000
set_option maxHeartbeats 4000000
set_option linter.all false
set_option backward.match.sparseCases false
set_option bootstrap.genMatcherCode false
namespace Mine.Internal
theorem vc_span_k (V : List Int) (F : Fcs) (hcn : Con V F) (v : Int) (ha : Opd.wf V.length (.k v)) (σ : Sg) : Vc 7 nn116.1 nb116.1 [⟨#[111, 112, 101, 114, 97, 110, 100]⟩, ⟨#[102, 97, 99, 116, 115]⟩] [Opd.d (.k v), .fac F.d] σ (SpP V F (.k v) σ) := by
  unfold Vc
  repeat' ((first | change @Bool.rec (fun _ => Prop) _ _ _ | change RP _ _ _ _ _ | change CT _ _ _ _ _ | change And _ _ | change WM _ _ _ | change Ok _ _ _ | conv => whnf); first
    | refine WIf.mk (fun hc => ?_) (fun hc => ?_)
    | refine And.intro (by first | decide | (first | lia | omega)) ?_
    | (rcases y with (yk | yr))
    | (rcases x with (xk | xr)))
  all_goals try (conv => whnf)
  all_goals first
    | exact sp_k (by first | exact sg_t (by assumption) | exact sg_f (by assumption))
theorem vc_span_r (V : List Int) (F : Fcs) (hcn : Con V F) (i : Nat) (ha : Opd.wf V.length (.r i)) (σ : Sg) : Vc 7 nn116.1 nb116.1 [⟨#[111, 112, 101, 114, 97, 110, 100]⟩, ⟨#[102, 97, 99, 116, 115]⟩] [Opd.d (.r i), .fac F.d] σ (SpP V F (.r i) σ) := by
  unfold Vc
  repeat' ((first | change @Bool.rec (fun _ => Prop) _ _ _ | change RP _ _ _ _ _ | change CT _ _ _ _ _ | change And _ _ | change WM _ _ _ | change Ok _ _ _ | conv => whnf); first
    | (refine wif2 rfl (fun e => ?_) (fun hc => ?_); focus subst e)
    | refine wif2n rfl ?_
    | refine wif1n rfl ?_
    | (refine wifin2 (fun p hc e => ?_) (fun hc => ?_); focus (cases p <;> first | exact absurd hc Bool.false_ne_true | subst e))
    | (refine wifin1 (fun p hc e => ?_) (fun hc => ?_); focus (cases p <;> first | exact absurd hc Bool.false_ne_true | subst e))
    | refine WIf.mk (fun hc => ?_) (fun hc => ?_)
    | refine wm_facL hcn (fun o x y hf => ?_) (fun o x hf => ?_) (fun s hf => ?_) (fun s hf => ?_) (fun s hf => ?_) (fun off hf => ?_) (fun off hf => ?_) (fun hf => ?_)
    | refine And.intro (by first | decide | (first | lia | omega) | (have hw := (Con.two hcn hf).2.2.2.1; simp only [Opd.wf] at hw; have g1 : 0 < yk := of_dec (by assumption); have g2 : yk < 32 := of_dec (by assumption); show (0 ≤ (32 : Int) - yk ∧ (32 : Int) - yk ≤ 64 ∧ (1 : Int).natAbs < 2 ^ 63); (first | lia | omega)) | (have hw := (Con.two hcn hf).2.2.2.1; simp only [Opd.wf] at hw; have g1 : 1 < yk := of_dec (by assumption); (first | lia | omega)) | (have hw := (Con.two hcn hf).2.2.2.1; simp only [Opd.wf] at hw; have g2 : yk < 32 := of_dec (by assumption); (first | lia | omega)) | (have hw := (Con.two hcn hf).2.2.2.1; simp only [Opd.wf] at hw; (first | lia | omega)) | (have hw := (Con.two hcn hf).2.2.2.1; have hl : yk < 32 := of_dec hc; simp only [Opd.wf] at hw; (first | lia | omega))) ?_
    | (rcases y with (yk | yr))
    | (rcases x with (xk | xr)))
  all_goals try (conv => whnf)
  all_goals first
    | exact sp_none ha hcn hf
    | exact sp_cmp rfl hcn hf rfl rfl
    | exact sp_8s hcn hf
    | exact sp_16s hcn hf
    | exact sp_8z hcn hf rfl rfl
    | exact sp_16z hcn hf rfl rfl
    | exact sp_whole ha hcn (sp_nt hf rfl)
    | exact sp_whole ha hcn (sp_no2 hf rfl)
    | exact sp_whole ha hcn (sp_nc hf (by assumption))
    | exact sp_load hcn hf (.inl ⟨rfl, (by assumption), rfl, rfl⟩)
    | exact sp_load hcn hf (.inr (.inl ⟨rfl, (by assumption), rfl, rfl⟩))
    | exact sp_load hcn hf (.inr (.inr (.inl ⟨rfl, (by assumption), rfl, rfl⟩)))
    | exact sp_load hcn hf (.inr (.inr (.inr ⟨rfl, (by assumption), rfl, rfl⟩)))
    | exact sp_and hcn hf rfl (by assumption)
    | exact sp_shr hcn hf rfl (by assumption) (by assumption)
    | exact sp_sar hcn hf (by assumption)
    | exact sp_remu hcn hf rfl (by assumption) (by assumption)
    | exact sp_divu hcn hf rfl (by assumption)
theorem vc_inner_8 (V : List Int) (F : Fcs) (hcn : Con V F) (i : Nat) (ha : i < V.length) (σ : Sg) : Vc 7 nn256.1 nb256.1 [⟨#[111, 112, 101, 114, 97, 110, 100]⟩, ⟨#[98, 105, 116, 115]⟩, ⟨#[102, 97, 99, 116, 115]⟩] [Opd.d (.r i), .int 8, .fac F.d] σ (InP V i 8 σ) := by
  unfold Vc
  repeat' ((first | change @Bool.rec (fun _ => Prop) _ _ _ | change RP _ _ _ _ _ | change CT _ _ _ _ _ | change And _ _ | change WM _ _ _ | change Ok _ _ _ | conv => whnf); first
    | refine WIf.off (by with_reducible assumption) ?_
    | (refine wif2 rfl (fun e => ?_) (fun hc => ?_); focus subst e)
    | refine wif1n rfl ?_
    | (refine wifin2 (fun p hc e => ?_) (fun hc => ?_); focus (cases p <;> first | exact absurd hc Bool.false_ne_true | subst e))
    | (refine wifin1 (fun p hc e => ?_) (fun hc => ?_); focus (cases p <;> first | exact absurd hc Bool.false_ne_true | subst e))
    | refine WIf.mk (fun hc => ?_) (fun hc => ?_)
    | refine wm_facL hcn (fun o x y hf => ?_) (fun o x hf => ?_) (fun s hf => ?_) (fun s hf => ?_) (fun s hf => ?_) (fun off hf => ?_) (fun off hf => ?_) (fun hf => ?_)
    | refine And.intro (by first | decide | (first | lia | omega)) ?_
    | (rcases y with (yk | yr))
    | (rcases x with (xk | xr)))
  all_goals try (conv => whnf)
  all_goals first
    | exact InP.none
    | exact in_and8 hcn hf hc
    | exact in_and8 hcn hf (by assumption)
    | exact in_ext8 hcn hf (by simp)
theorem vc_inner_16 (V : List Int) (F : Fcs) (hcn : Con V F) (i : Nat) (ha : i < V.length) (σ : Sg) : Vc 7 nn256.1 nb256.1 [⟨#[111, 112, 101, 114, 97, 110, 100]⟩, ⟨#[98, 105, 116, 115]⟩, ⟨#[102, 97, 99, 116, 115]⟩] [Opd.d (.r i), .int 16, .fac F.d] σ (InP V i 16 σ) := by
  unfold Vc
  repeat' ((first | change @Bool.rec (fun _ => Prop) _ _ _ | change RP _ _ _ _ _ | change CT _ _ _ _ _ | change And _ _ | change WM _ _ _ | change Ok _ _ _ | conv => whnf); first
    | refine WIf.off (by with_reducible assumption) ?_
    | (refine wif2 rfl (fun e => ?_) (fun hc => ?_); focus subst e)
    | refine wif1n rfl ?_
    | (refine wifin2 (fun p hc e => ?_) (fun hc => ?_); focus (cases p <;> first | exact absurd hc Bool.false_ne_true | subst e))
    | (refine wifin1 (fun p hc e => ?_) (fun hc => ?_); focus (cases p <;> first | exact absurd hc Bool.false_ne_true | subst e))
    | refine WIf.mk (fun hc => ?_) (fun hc => ?_)
    | refine wm_facL hcn (fun o x y hf => ?_) (fun o x hf => ?_) (fun s hf => ?_) (fun s hf => ?_) (fun s hf => ?_) (fun off hf => ?_) (fun off hf => ?_) (fun hf => ?_)
    | refine And.intro (by first | decide | (first | lia | omega)) ?_
    | (rcases y with (yk | yr))
    | (rcases x with (xk | xr)))
  all_goals try (conv => whnf)
  all_goals first
    | exact InP.none
    | exact in_and16 hcn hf hc
    | exact in_and16 hcn hf (by assumption)
    | exact in_ext16 hcn hf (by simp)
end Mine.Internal

end
section
open PySem PySem.W PyProof.Rows PySem.Calls
set_option Elab.async false
set_option tactic.hygienic false
set_option maxRecDepth 100000
set_option maxHeartbeats 4000000
set_option linter.all false
set_option backward.match.sparseCases false
set_option bootstrap.genMatcherCode false
namespace Mine.Internal
theorem vc_one_neg (x : Int) (hx : W32 x) (σ : Sg) : Vc 4 nn414.1 nb414.1 [⟨#[111, 112]⟩, ⟨#[118, 97, 108, 117, 101]⟩] [.str (O1.nm .neg), .int x] σ (LP (some (sem1 .neg x)) σ) := by
  have hx' : 0 ≤ x ∧ x < 4294967296 := hx
  unfold Vc
  repeat' ((first | change @Bool.rec (fun _ => Prop) _ _ _ | change RP _ _ _ _ _ | change CT _ _ _ _ _ | change And _ _ | change WM _ _ _ | change Ok _ _ _ | conv => whnf); first
    | refine And.intro (by first | decide | omega) ?_
    | refine LP.mk ?_)
  all_goals first
    | exact lone (lo_neg)
theorem vc_one_not (x : Int) (hx : W32 x) (σ : Sg) : Vc 4 nn414.1 nb414.1 [⟨#[111, 112]⟩, ⟨#[118, 97, 108, 117, 101]⟩] [.str (O1.nm .not), .int x] σ (LP (some (sem1 .not x)) σ) := by
  have hx' : 0 ≤ x ∧ x < 4294967296 := hx
  unfold Vc
  repeat' ((first | change @Bool.rec (fun _ => Prop) _ _ _ | change RP _ _ _ _ _ | change CT _ _ _ _ _ | change And _ _ | change WM _ _ _ | change Ok _ _ _ | conv => whnf); first
    | refine And.intro (by first | decide | (first | lia | omega)) ?_
    | refine LP.mk ?_)
  all_goals first
    | exact lone (lo_not)
theorem vc_one_sx8 (x : Int) (hx : W32 x) (σ : Sg) : Vc 4 nn414.1 nb414.1 [⟨#[111, 112]⟩, ⟨#[118, 97, 108, 117, 101]⟩] [.str (O1.nm .sx8), .int x] σ (LP (some (sem1 .sx8 x)) σ) := by
  have hx' : 0 ≤ x ∧ x < 4294967296 := hx
  unfold Vc
  repeat' ((first | change @Bool.rec (fun _ => Prop) _ _ _ | change RP _ _ _ _ _ | change CT _ _ _ _ _ | change And _ _ | change WM _ _ _ | change Ok _ _ _ | conv => whnf); first
    | refine WIf.mk (fun hc => ?_) (fun hc => ?_)
    | refine And.intro (by first | decide | (first | lia | omega)) ?_
    | refine LP.mk ?_)
  all_goals first
    | exact lone (lo_8t hc)
    | exact lone (lo_8f hc)
theorem vc_one_sx16 (x : Int) (hx : W32 x) (σ : Sg) : Vc 4 nn414.1 nb414.1 [⟨#[111, 112]⟩, ⟨#[118, 97, 108, 117, 101]⟩] [.str (O1.nm .sx16), .int x] σ (LP (some (sem1 .sx16 x)) σ) := by
  have hx' : 0 ≤ x ∧ x < 4294967296 := hx
  unfold Vc
  repeat' ((first | change @Bool.rec (fun _ => Prop) _ _ _ | change RP _ _ _ _ _ | change CT _ _ _ _ _ | change And _ _ | change WM _ _ _ | change Ok _ _ _ | conv => whnf); first
    | refine WIf.mk (fun hc => ?_) (fun hc => ?_)
    | refine And.intro (by first | decide | omega) ?_
    | refine LP.mk ?_)
  all_goals first
    | exact lone (lo_16t hc)
    | exact lone (lo_16f hc)
theorem vc_one_zx8 (x : Int) (hx : W32 x) (σ : Sg) : Vc 4 nn414.1 nb414.1 [⟨#[111, 112]⟩, ⟨#[118, 97, 108, 117, 101]⟩] [.str (O1.nm .zx8), .int x] σ (LP (some (sem1 .zx8 x)) σ) := by
  have hx' : 0 ≤ x ∧ x < 4294967296 := hx
  unfold Vc
  repeat' ((first | change @Bool.rec (fun _ => Prop) _ _ _ | change RP _ _ _ _ _ | change CT _ _ _ _ _ | change And _ _ | change WM _ _ _ | change Ok _ _ _ | conv => whnf); first
    | refine And.intro (by first | decide | omega) ?_
    | refine LP.mk ?_)
  all_goals first
    | exact lone (lo_8z)
theorem vc_one_zx16 (x : Int) (hx : W32 x) (σ : Sg) : Vc 4 nn414.1 nb414.1 [⟨#[111, 112]⟩, ⟨#[118, 97, 108, 117, 101]⟩] [.str (O1.nm .zx16), .int x] σ (LP (some (sem1 .zx16 x)) σ) := by
  have hx' : 0 ≤ x ∧ x < 4294967296 := hx
  unfold Vc
  repeat' ((first | change @Bool.rec (fun _ => Prop) _ _ _ | change RP _ _ _ _ _ | change CT _ _ _ _ _ | change And _ _ | change WM _ _ _ | change Ok _ _ _ | conv => whnf); first
    | refine And.intro (by first | decide | omega) ?_
    | refine LP.mk ?_)
  all_goals first
    | exact lone (lo_16z)
theorem vc_shared_divu (x y : Int) (hx : W32 x) (hy : W32 y) (σ : Sg) : Vc 4 nn400.1 nb400.1 [⟨#[111, 112]⟩, ⟨#[111, 110, 101]⟩, ⟨#[111, 116, 104, 101, 114]⟩] [.str (O2.nm .divu), .int x, .int y] σ (LP (sem2 .divu x y) σ) := by
  have hx' : 0 ≤ x ∧ x < 4294967296 := hx
  have hy' : 0 ≤ y ∧ y < 4294967296 := hy
  unfold Vc
  repeat' ((first | change @Bool.rec (fun _ => Prop) _ _ _ | change RP _ _ _ _ _ | change CT _ _ _ _ _ | change And _ _ | change WM _ _ _ | change Ok _ _ _ | conv => whnf); first
    | refine WIf.mk (fun hc => ?_) (fun hc => ?_)
    | refine And.intro (by first | decide | omega | exact fq1 (by first | exact .inl rfl | exact .inr rfl) hy (by assumption) | exact fq2 (by first | exact .inl rfl | exact .inr rfl) (by first | exact .inl rfl | exact .inr rfl) hx hy) ?_
    | refine LP.mk ?_)
  all_goals first
    | exact du_0 hc
    | exact neg1_no hy hc
    | exact du_s (by assumption) (q_t hc)
    | exact du_s (by assumption) (q_f hc)
theorem vc_shared_remu (x y : Int) (hx : W32 x) (hy : W32 y) (σ : Sg) : Vc 4 nn400.1 nb400.1 [⟨#[111, 112]⟩, ⟨#[111, 110, 101]⟩, ⟨#[111, 116, 104, 101, 114]⟩] [.str (O2.nm .remu), .int x, .int y] σ (LP (sem2 .remu x y) σ) := by
  have hx' : 0 ≤ x ∧ x < 4294967296 := hx
  have hy' : 0 ≤ y ∧ y < 4294967296 := hy
  unfold Vc
  repeat' ((first | change @Bool.rec (fun _ => Prop) _ _ _ | change RP _ _ _ _ _ | change CT _ _ _ _ _ | change And _ _ | change WM _ _ _ | change Ok _ _ _ | conv => whnf); first
    | refine WIf.mk (fun hc => ?_) (fun hc => ?_)
    | refine And.intro (by first | decide | (first | lia | omega) | exact fq2 (by first | exact .inl rfl | exact .inr rfl) (by first | exact .inl rfl | exact .inr rfl) hx hy) ?_
    | refine LP.mk ?_)
  all_goals first
    | exact ru_0 hc
    | exact neg1_no hy hc
    | exact ru_s (by assumption) (r_t hc)
    | exact ru_s (by assumption) (r_f hc)
theorem vc_shared_div (x y : Int) (hx : W32 x) (hy : W32 y) (σ : Sg) : Vc 4 nn400.1 nb400.1 [⟨#[111, 112]⟩, ⟨#[111, 110, 101]⟩, ⟨#[111, 116, 104, 101, 114]⟩] [.str (O2.nm .div), .int x, .int y] σ (LP (sem2 .div x y) σ) := by
  have hx' : 0 ≤ x ∧ x < 4294967296 := hx
  have hy' : 0 ≤ y ∧ y < 4294967296 := hy
  unfold Vc
  repeat' ((first | change @Bool.rec (fun _ => Prop) _ _ _ | change RP _ _ _ _ _ | change CT _ _ _ _ _ | change And _ _ | change WM _ _ _ | change Ok _ _ _ | conv => whnf); first
    | refine WIf.mk (fun hc => ?_) (fun hc => ?_)
    | refine And.intro (by first | decide | omega | exact fq1 (by first | exact .inl rfl | exact .inr rfl) hy (by assumption) | exact fq2 (by first | exact .inl rfl | exact .inr rfl) (by first | exact .inl rfl | exact .inr rfl) hx hy) ?_
    | refine LP.mk ?_)
  all_goals first
    | exact ds_0 (by first | exact sg_t (by assumption) | exact sg_f (by assumption)) hc
    | exact ds_o (by first | exact sg_t (by assumption) | exact sg_f (by assumption)) (by first | exact sg_t (by assumption) | exact sg_f (by assumption)) (by assumption) hc
    | exact ds_s (by first | exact sg_t (by assumption) | exact sg_f (by assumption)) (by first | exact sg_t (by assumption) | exact sg_f (by assumption)) (by assumption) (by first | exact .inl (by assumption) | exact .inr (by assumption)) (q_t hc)
    | exact ds_s (by first | exact sg_t (by assumption) | exact sg_f (by assumption)) (by first | exact sg_t (by assumption) | exact sg_f (by assumption)) (by assumption) (by first | exact .inl (by assumption) | exact .inr (by assumption)) (q_f hc)
theorem vc_shared_rem (x y : Int) (hx : W32 x) (hy : W32 y) (σ : Sg) : Vc 4 nn400.1 nb400.1 [⟨#[111, 112]⟩, ⟨#[111, 110, 101]⟩, ⟨#[111, 116, 104, 101, 114]⟩] [.str (O2.nm .rem), .int x, .int y] σ (LP (sem2 .rem x y) σ) := by
  have hx' : 0 ≤ x ∧ x < 4294967296 := hx
  have hy' : 0 ≤ y ∧ y < 4294967296 := hy
  unfold Vc
  repeat' ((first | change @Bool.rec (fun _ => Prop) _ _ _ | change RP _ _ _ _ _ | change CT _ _ _ _ _ | change And _ _ | change WM _ _ _ | change Ok _ _ _ | conv => whnf); first
    | refine WIf.mk (fun hc => ?_) (fun hc => ?_)
    | refine And.intro (by first | decide | omega | exact fq1 (by first | exact .inl rfl | exact .inr rfl) hy (by assumption) | exact fq2 (by first | exact .inl rfl | exact .inr rfl) (by first | exact .inl rfl | exact .inr rfl) hx hy) ?_
    | refine LP.mk ?_)
  all_goals first
    | exact rs_0 (by first | exact sg_t (by assumption) | exact sg_f (by assumption)) hc
    | exact rs_o (by first | exact sg_t (by assumption) | exact sg_f (by assumption)) (by first | exact sg_t (by assumption) | exact sg_f (by assumption)) (by assumption) hc
    | exact rs_s (by first | exact sg_t (by assumption) | exact sg_f (by assumption)) (by first | exact sg_t (by assumption) | exact sg_f (by assumption)) (by assumption) (by first | exact .inl (by assumption) | exact .inr (by assumption)) (r_t hc)
    | exact rs_s (by first | exact sg_t (by assumption) | exact sg_f (by assumption)) (by first | exact sg_t (by assumption) | exact sg_f (by assumption)) (by assumption) (by first | exact .inl (by assumption) | exact .inr (by assumption)) (r_f hc)
end Mine.Internal

end
section
open PySem PySem.W PyProof.Rows PySem.Calls
set_option Elab.async false
set_option tactic.hygienic false
set_option maxRecDepth 100000
set_option maxHeartbeats 4000000
set_option linter.all false
set_option backward.match.sparseCases false
set_option bootstrap.genMatcherCode false
namespace Mine.Internal
noncomputable def loT : Expr := match (show List Stmt from nb407.1)[1]? with
  | some (Stmt.For t _ _ _ _) => t
  | _ => .Name ⟨#[]⟩ ⟨0, 0, 0, 0⟩
noncomputable def loB : List Stmt := match (show List Stmt from nb407.1)[1]? with
  | some (Stmt.For _ _ b _ _) => b
  | _ => []
theorem two_loop (op : Str) (x y : Int) {σ : Sg} {K : En → Sg → Prop} {Qr : D → Sg → Prop} (h : K ((⟨#[116, 105, 109, 101, 115]⟩, .int (2 ^ (y % 32).toNat)) :: pz [⟨#[111, 112]⟩, ⟨#[111, 110, 101]⟩, ⟨#[111, 116, 104, 101, 114]⟩] [.str op, .int x, .int y]) σ) :
    loopW (fun d ρ K => tgtW ⟨nn407.1, []⟩ loT d ρ K) (fun ρ σ K => Rc.ss (WR (gx 5) 57) ⟨nn407.1, []⟩ loB ρ σ K Qr) (rangeD (Int.fmod y (Int.ofNat 32)).toNat) ((⟨#[116, 105, 109, 101, 115]⟩, .int 1) :: pz [⟨#[111, 112]⟩, ⟨#[111, 110, 101]⟩, ⟨#[111, 116, 104, 101, 114]⟩] [.str op, .int x, .int y]) σ K := by
  refine loop_range (fun i ρ s => s = σ ∧ ρ = (⟨#[116, 105, 109, 101, 115]⟩, .int (2 ^ i)) :: pz [⟨#[111, 112]⟩, ⟨#[111, 110, 101]⟩, ⟨#[111, 116, 104, 101, 114]⟩] [.str op, .int x, .int y]) ⟨rfl, rfl⟩ (fun i ρ s hi hI K' hK => ?_) fun ρ s hI => ?_
  · have hi' := Nat.lt_trans hi md32'.1
    rcases hI with ⟨rfl, rfl⟩
    conv => whnf
    refine And.intro ⟨two_lt hi', by decide⟩ ?_
    exact hK _ _ ⟨rfl, by rw [Int.pow_succ]; rfl⟩
  · rcases hI with ⟨rfl, rfl⟩
    rw [md32'.2]
    exact h
theorem vc_two_add (x y : Int) (hx : W32 x) (hy : W32 y) (σ : Sg) : Vc 5 nn407.1 nb407.1 [⟨#[111, 112]⟩, ⟨#[111, 110, 101]⟩, ⟨#[111, 116, 104, 101, 114]⟩] [.str (O2.nm .add), .int x, .int y] σ (LP (sem2 .add x y) σ) := by
  have hx' : 0 ≤ x ∧ x < 4294967296 := hx
  have hy' : 0 ≤ y ∧ y < 4294967296 := hy
  unfold Vc
  repeat' ((first | change @Bool.rec (fun _ => Prop) _ _ _ | change RP _ _ _ _ _ | change CT _ _ _ _ _ | change And _ _ | change WM _ _ _ | change Ok _ _ _ | conv => whnf); first
    | refine ForI.mk ?_
    | refine And.intro (by first | decide | (first | lia | omega)) ?_
    | refine LP.mk ?_)
  refine two_loop (O2.nm .add) x y ?_
  obtain ⟨t, ht⟩ : ∃ t : Int, t = 2 ^ (y % 32).toNat := ⟨_, rfl⟩
  rw [← ht]
  repeat' ((first | change @Bool.rec (fun _ => Prop) _ _ _ | change RP _ _ _ _ _ | change CT _ _ _ _ _ | change And _ _ | change WM _ _ _ | change Ok _ _ _ | conv => whnf); first
    | refine ForI.mk ?_
    | refine And.intro (by first | decide | (first | lia | omega) | exact ⟨by decide, and_small hx hy⟩ | exact ⟨by (first | lia | omega), by rw [ht]; exact two_lt (by (first | lia | omega))⟩ | exact ⟨by rw [ht]; exact Int.ne_of_gt (pow_pos _), by rw [ht]; exact two_lt (by (first | lia | omega))⟩) ?_
    | refine LP.mk ?_)
  all_goals first
    | exact tw_add

theorem vc_two_sub (x y : Int) (hx : W32 x) (hy : W32 y) (σ : Sg) : Vc 5 nn407.1 nb407.1 [⟨#[111, 112]⟩, ⟨#[111, 110, 101]⟩, ⟨#[111, 116, 104, 101, 114]⟩] [.str (O2.nm .sub), .int x, .int y] σ (LP (sem2 .sub x y) σ) := by
  have hx' : 0 ≤ x ∧ x < 4294967296 := hx
  have hy' : 0 ≤ y ∧ y < 4294967296 := hy
  unfold Vc
  repeat' ((first | change @Bool.rec (fun _ => Prop) _ _ _ | change RP _ _ _ _ _ | change CT _ _ _ _ _ | change And _ _ | change WM _ _ _ | change Ok _ _ _ | conv => whnf); first
    | refine ForI.mk ?_
    | refine And.intro (by first | decide | (first | lia | omega)) ?_
    | refine LP.mk ?_)
  refine two_loop (O2.nm .sub) x y ?_
  obtain ⟨t, ht⟩ : ∃ t : Int, t = 2 ^ (y % 32).toNat := ⟨_, rfl⟩
  rw [← ht]
  repeat' ((first | change @Bool.rec (fun _ => Prop) _ _ _ | change RP _ _ _ _ _ | change CT _ _ _ _ _ | change And _ _ | change WM _ _ _ | change Ok _ _ _ | conv => whnf); first
    | refine ForI.mk ?_
    | refine And.intro (by first | decide | (first | lia | omega) | exact ⟨by decide, and_small hx hy⟩ | exact ⟨by (first | lia | omega), by rw [ht]; exact two_lt (by (first | lia | omega))⟩ | exact ⟨by rw [ht]; exact Int.ne_of_gt (pow_pos _), by rw [ht]; exact two_lt (by (first | lia | omega))⟩) ?_
    | refine LP.mk ?_)
  all_goals first
    | exact tw_sub

theorem vc_two_mul (x y : Int) (hx : W32 x) (hy : W32 y) (σ : Sg) : Vc 5 nn407.1 nb407.1 [⟨#[111, 112]⟩, ⟨#[111, 110, 101]⟩, ⟨#[111, 116, 104, 101, 114]⟩] [.str (O2.nm .mul), .int x, .int y] σ (LP (sem2 .mul x y) σ) := by
  have hx' : 0 ≤ x ∧ x < 4294967296 := hx
  have hy' : 0 ≤ y ∧ y < 4294967296 := hy
  unfold Vc
  repeat' ((first | change @Bool.rec (fun _ => Prop) _ _ _ | change RP _ _ _ _ _ | change CT _ _ _ _ _ | change And _ _ | change WM _ _ _ | change Ok _ _ _ | conv => whnf); first
    | refine ForI.mk ?_
    | refine And.intro (by first | decide | (first | lia | omega)) ?_
    | refine LP.mk ?_)
  refine two_loop (O2.nm .mul) x y ?_
  obtain ⟨t, ht⟩ : ∃ t : Int, t = 2 ^ (y % 32).toNat := ⟨_, rfl⟩
  rw [← ht]
  repeat' ((first | change @Bool.rec (fun _ => Prop) _ _ _ | change RP _ _ _ _ _ | change CT _ _ _ _ _ | change And _ _ | change WM _ _ _ | change Ok _ _ _ | conv => whnf); first
    | refine ForI.mk ?_
    | refine And.intro (by first | decide | (first | lia | omega) | exact ⟨by decide, and_small hx hy⟩ | exact ⟨by (first | lia | omega), by rw [ht]; exact two_lt (by (first | lia | omega))⟩ | exact ⟨by rw [ht]; exact Int.ne_of_gt (pow_pos _), by rw [ht]; exact two_lt (by (first | lia | omega))⟩) ?_
    | refine LP.mk ?_)
  all_goals first
    | exact tw_mul

theorem vc_two_div (x y : Int) (hx : W32 x) (hy : W32 y) (σ : Sg) : Vc 5 nn407.1 nb407.1 [⟨#[111, 112]⟩, ⟨#[111, 110, 101]⟩, ⟨#[111, 116, 104, 101, 114]⟩] [.str (O2.nm .div), .int x, .int y] σ (LP (sem2 .div x y) σ) := by
  have hx' : 0 ≤ x ∧ x < 4294967296 := hx
  have hy' : 0 ≤ y ∧ y < 4294967296 := hy
  unfold Vc
  repeat' ((first | change @Bool.rec (fun _ => Prop) _ _ _ | change RP _ _ _ _ _ | change CT _ _ _ _ _ | change And _ _ | change WM _ _ _ | change Ok _ _ _ | conv => whnf); first
    | refine ForI.mk ?_
    | refine And.intro (by first | decide | (first | lia | omega)) ?_
    | refine LP.mk ?_)
  refine two_loop (O2.nm .div) x y ?_
  obtain ⟨t, ht⟩ : ∃ t : Int, t = 2 ^ (y % 32).toNat := ⟨_, rfl⟩
  rw [← ht]
  repeat' ((first | change @Bool.rec (fun _ => Prop) _ _ _ | change RP _ _ _ _ _ | change CT _ _ _ _ _ | change And _ _ | change WM _ _ _ | change Ok _ _ _ | conv => whnf); first
    | refine ForI.mk ?_
    | refine And.intro (by first | decide | (first | lia | omega) | exact ⟨by decide, and_small hx hy⟩ | exact ⟨by (first | lia | omega), by rw [ht]; exact two_lt (by (first | lia | omega))⟩ | exact ⟨by rw [ht]; exact Int.ne_of_gt (pow_pos _), by rw [ht]; exact two_lt (by (first | lia | omega))⟩) ?_
    | refine LP.mk ?_
    | refine CT.lsh (o := .div) (x := x) (y := y) rfl (by simp) hx hy ?_)
  all_goals first
    | exact rfl

theorem vc_two_divu (x y : Int) (hx : W32 x) (hy : W32 y) (σ : Sg) : Vc 5 nn407.1 nb407.1 [⟨#[111, 112]⟩, ⟨#[111, 110, 101]⟩, ⟨#[111, 116, 104, 101, 114]⟩] [.str (O2.nm .divu), .int x, .int y] σ (LP (sem2 .divu x y) σ) := by
  have hx' : 0 ≤ x ∧ x < 4294967296 := hx
  have hy' : 0 ≤ y ∧ y < 4294967296 := hy
  unfold Vc
  repeat' ((first | change @Bool.rec (fun _ => Prop) _ _ _ | change RP _ _ _ _ _ | change CT _ _ _ _ _ | change And _ _ | change WM _ _ _ | change Ok _ _ _ | conv => whnf); first
    | refine ForI.mk ?_
    | refine And.intro (by first | decide | (first | lia | omega)) ?_
    | refine LP.mk ?_)
  refine two_loop (O2.nm .divu) x y ?_
  obtain ⟨t, ht⟩ : ∃ t : Int, t = 2 ^ (y % 32).toNat := ⟨_, rfl⟩
  rw [← ht]
  repeat' ((first | change @Bool.rec (fun _ => Prop) _ _ _ | change RP _ _ _ _ _ | change CT _ _ _ _ _ | change And _ _ | change WM _ _ _ | change Ok _ _ _ | conv => whnf); first
    | refine ForI.mk ?_
    | refine And.intro (by first | decide | (first | lia | omega) | exact ⟨by decide, and_small hx hy⟩ | exact ⟨by (first | lia | omega), by rw [ht]; exact two_lt (by (first | lia | omega))⟩ | exact ⟨by rw [ht]; exact Int.ne_of_gt (pow_pos _), by rw [ht]; exact two_lt (by (first | lia | omega))⟩) ?_
    | refine LP.mk ?_
    | refine CT.lsh (o := .divu) (x := x) (y := y) rfl (by simp) hx hy ?_)
  all_goals first
    | exact rfl

theorem vc_two_rem (x y : Int) (hx : W32 x) (hy : W32 y) (σ : Sg) : Vc 5 nn407.1 nb407.1 [⟨#[111, 112]⟩, ⟨#[111, 110, 101]⟩, ⟨#[111, 116, 104, 101, 114]⟩] [.str (O2.nm .rem), .int x, .int y] σ (LP (sem2 .rem x y) σ) := by
  have hx' : 0 ≤ x ∧ x < 4294967296 := hx
  have hy' : 0 ≤ y ∧ y < 4294967296 := hy
  unfold Vc
  repeat' ((first | change @Bool.rec (fun _ => Prop) _ _ _ | change RP _ _ _ _ _ | change CT _ _ _ _ _ | change And _ _ | change WM _ _ _ | change Ok _ _ _ | conv => whnf); first
    | refine ForI.mk ?_
    | refine And.intro (by first | decide | (first | lia | omega)) ?_
    | refine LP.mk ?_)
  refine two_loop (O2.nm .rem) x y ?_
  obtain ⟨t, ht⟩ : ∃ t : Int, t = 2 ^ (y % 32).toNat := ⟨_, rfl⟩
  rw [← ht]
  repeat' ((first | change @Bool.rec (fun _ => Prop) _ _ _ | change RP _ _ _ _ _ | change CT _ _ _ _ _ | change And _ _ | change WM _ _ _ | change Ok _ _ _ | conv => whnf); first
    | refine ForI.mk ?_
    | refine And.intro (by first | decide | (first | lia | omega) | exact ⟨by decide, and_small hx hy⟩ | exact ⟨by (first | lia | omega), by rw [ht]; exact two_lt (by (first | lia | omega))⟩ | exact ⟨by rw [ht]; exact Int.ne_of_gt (pow_pos _), by rw [ht]; exact two_lt (by (first | lia | omega))⟩) ?_
    | refine LP.mk ?_
    | refine CT.lsh (o := .rem) (x := x) (y := y) rfl (by simp) hx hy ?_)
  all_goals first
    | exact rfl

theorem vc_two_remu (x y : Int) (hx : W32 x) (hy : W32 y) (σ : Sg) : Vc 5 nn407.1 nb407.1 [⟨#[111, 112]⟩, ⟨#[111, 110, 101]⟩, ⟨#[111, 116, 104, 101, 114]⟩] [.str (O2.nm .remu), .int x, .int y] σ (LP (sem2 .remu x y) σ) := by
  have hx' : 0 ≤ x ∧ x < 4294967296 := hx
  have hy' : 0 ≤ y ∧ y < 4294967296 := hy
  unfold Vc
  repeat' ((first | change @Bool.rec (fun _ => Prop) _ _ _ | change RP _ _ _ _ _ | change CT _ _ _ _ _ | change And _ _ | change WM _ _ _ | change Ok _ _ _ | conv => whnf); first
    | refine ForI.mk ?_
    | refine And.intro (by first | decide | (first | lia | omega)) ?_
    | refine LP.mk ?_)
  refine two_loop (O2.nm .remu) x y ?_
  obtain ⟨t, ht⟩ : ∃ t : Int, t = 2 ^ (y % 32).toNat := ⟨_, rfl⟩
  rw [← ht]
  repeat' ((first | change @Bool.rec (fun _ => Prop) _ _ _ | change RP _ _ _ _ _ | change CT _ _ _ _ _ | change And _ _ | change WM _ _ _ | change Ok _ _ _ | conv => whnf); first
    | refine ForI.mk ?_
    | refine And.intro (by first | decide | (first | lia | omega) | exact ⟨by decide, and_small hx hy⟩ | exact ⟨by (first | lia | omega), by rw [ht]; exact two_lt (by (first | lia | omega))⟩ | exact ⟨by rw [ht]; exact Int.ne_of_gt (pow_pos _), by rw [ht]; exact two_lt (by (first | lia | omega))⟩) ?_
    | refine LP.mk ?_
    | refine CT.lsh (o := .remu) (x := x) (y := y) rfl (by simp) hx hy ?_)
  all_goals first
    | exact rfl

theorem vc_two_and (x y : Int) (hx : W32 x) (hy : W32 y) (σ : Sg) : Vc 5 nn407.1 nb407.1 [⟨#[111, 112]⟩, ⟨#[111, 110, 101]⟩, ⟨#[111, 116, 104, 101, 114]⟩] [.str (O2.nm .and), .int x, .int y] σ (LP (sem2 .and x y) σ) := by
  have hx' : 0 ≤ x ∧ x < 4294967296 := hx
  have hy' : 0 ≤ y ∧ y < 4294967296 := hy
  unfold Vc
  repeat' ((first | change @Bool.rec (fun _ => Prop) _ _ _ | change RP _ _ _ _ _ | change CT _ _ _ _ _ | change And _ _ | change WM _ _ _ | change Ok _ _ _ | conv => whnf); first
    | refine ForI.mk ?_
    | refine And.intro (by first | decide | (first | lia | omega)) ?_
    | refine LP.mk ?_)
  refine two_loop (O2.nm .and) x y ?_
  obtain ⟨t, ht⟩ : ∃ t : Int, t = 2 ^ (y % 32).toNat := ⟨_, rfl⟩
  rw [← ht]
  repeat' ((first | change @Bool.rec (fun _ => Prop) _ _ _ | change RP _ _ _ _ _ | change CT _ _ _ _ _ | change And _ _ | change WM _ _ _ | change Ok _ _ _ | conv => whnf); first
    | refine ForI.mk ?_
    | refine And.intro (by first | decide | (first | lia | omega) | exact ⟨by decide, and_small hx hy⟩ | exact ⟨by (first | lia | omega), by rw [ht]; exact two_lt (by (first | lia | omega))⟩ | exact ⟨by rw [ht]; exact Int.ne_of_gt (pow_pos _), by rw [ht]; exact two_lt (by (first | lia | omega))⟩) ?_
    | refine LP.mk ?_)
  all_goals first
    | exact tw_and

theorem vc_two_or (x y : Int) (hx : W32 x) (hy : W32 y) (σ : Sg) : Vc 5 nn407.1 nb407.1 [⟨#[111, 112]⟩, ⟨#[111, 110, 101]⟩, ⟨#[111, 116, 104, 101, 114]⟩] [.str (O2.nm .or), .int x, .int y] σ (LP (sem2 .or x y) σ) := by
  have hx' : 0 ≤ x ∧ x < 4294967296 := hx
  have hy' : 0 ≤ y ∧ y < 4294967296 := hy
  unfold Vc
  repeat' ((first | change @Bool.rec (fun _ => Prop) _ _ _ | change RP _ _ _ _ _ | change CT _ _ _ _ _ | change And _ _ | change WM _ _ _ | change Ok _ _ _ | conv => whnf); first
    | refine ForI.mk ?_
    | refine And.intro (by first | decide | (first | lia | omega)) ?_
    | refine LP.mk ?_)
  refine two_loop (O2.nm .or) x y ?_
  obtain ⟨t, ht⟩ : ∃ t : Int, t = 2 ^ (y % 32).toNat := ⟨_, rfl⟩
  rw [← ht]
  repeat' ((first | change @Bool.rec (fun _ => Prop) _ _ _ | change RP _ _ _ _ _ | change CT _ _ _ _ _ | change And _ _ | change WM _ _ _ | change Ok _ _ _ | conv => whnf); first
    | refine ForI.mk ?_
    | refine And.intro (by first | decide | (first | lia | omega) | exact ⟨by decide, and_small hx hy⟩ | exact ⟨by (first | lia | omega), by rw [ht]; exact two_lt (by (first | lia | omega))⟩ | exact ⟨by rw [ht]; exact Int.ne_of_gt (pow_pos _), by rw [ht]; exact two_lt (by (first | lia | omega))⟩) ?_
    | refine LP.mk ?_)
  all_goals first
    | exact tw_or

theorem vc_two_xor (x y : Int) (hx : W32 x) (hy : W32 y) (σ : Sg) : Vc 5 nn407.1 nb407.1 [⟨#[111, 112]⟩, ⟨#[111, 110, 101]⟩, ⟨#[111, 116, 104, 101, 114]⟩] [.str (O2.nm .xor), .int x, .int y] σ (LP (sem2 .xor x y) σ) := by
  have hx' : 0 ≤ x ∧ x < 4294967296 := hx
  have hy' : 0 ≤ y ∧ y < 4294967296 := hy
  unfold Vc
  repeat' ((first | change @Bool.rec (fun _ => Prop) _ _ _ | change RP _ _ _ _ _ | change CT _ _ _ _ _ | change And _ _ | change WM _ _ _ | change Ok _ _ _ | conv => whnf); first
    | refine ForI.mk ?_
    | refine And.intro (by first | decide | (first | lia | omega)) ?_
    | refine LP.mk ?_)
  refine two_loop (O2.nm .xor) x y ?_
  obtain ⟨t, ht⟩ : ∃ t : Int, t = 2 ^ (y % 32).toNat := ⟨_, rfl⟩
  rw [← ht]
  repeat' ((first | change @Bool.rec (fun _ => Prop) _ _ _ | change RP _ _ _ _ _ | change CT _ _ _ _ _ | change And _ _ | change WM _ _ _ | change Ok _ _ _ | conv => whnf); first
    | refine ForI.mk ?_
    | refine And.intro (by first | decide | (first | lia | omega) | exact ⟨by decide, and_small hx hy⟩ | exact ⟨by (first | lia | omega), by rw [ht]; exact two_lt (by (first | lia | omega))⟩ | exact ⟨by rw [ht]; exact Int.ne_of_gt (pow_pos _), by rw [ht]; exact two_lt (by (first | lia | omega))⟩) ?_
    | refine LP.mk ?_)
  all_goals first
    | exact tw_xor

theorem vc_two_shl (x y : Int) (hx : W32 x) (hy : W32 y) (σ : Sg) : Vc 5 nn407.1 nb407.1 [⟨#[111, 112]⟩, ⟨#[111, 110, 101]⟩, ⟨#[111, 116, 104, 101, 114]⟩] [.str (O2.nm .shl), .int x, .int y] σ (LP (sem2 .shl x y) σ) := by
  have hx' : 0 ≤ x ∧ x < 4294967296 := hx
  have hy' : 0 ≤ y ∧ y < 4294967296 := hy
  unfold Vc
  repeat' ((first | change @Bool.rec (fun _ => Prop) _ _ _ | change RP _ _ _ _ _ | change CT _ _ _ _ _ | change And _ _ | change WM _ _ _ | change Ok _ _ _ | conv => whnf); first
    | refine WIf.mk (fun hc => ?_) (fun hc => ?_)
    | refine ForI.mk ?_
    | refine And.intro (by first | decide | (first | lia | omega)) ?_
    | refine LP.mk ?_)
  refine two_loop (O2.nm .shl) x y ?_
  obtain ⟨t, ht⟩ : ∃ t : Int, t = 2 ^ (y % 32).toNat := ⟨_, rfl⟩
  rw [← ht]
  repeat' ((first | change @Bool.rec (fun _ => Prop) _ _ _ | change RP _ _ _ _ _ | change CT _ _ _ _ _ | change And _ _ | change WM _ _ _ | change Ok _ _ _ | conv => whnf); first
    | refine WIf.mk (fun hc => ?_) (fun hc => ?_)
    | refine ForI.mk ?_
    | refine And.intro (by first | decide | (first | lia | omega) | exact ⟨by decide, and_small hx hy⟩ | exact ⟨by (first | lia | omega), by rw [ht]; exact two_lt (by (first | lia | omega))⟩ | exact ⟨by rw [ht]; exact Int.ne_of_gt (pow_pos _), by rw [ht]; exact two_lt (by (first | lia | omega))⟩) ?_
    | refine LP.mk ?_)
  all_goals first
    | exact tw_shl ht

theorem vc_two_shr (x y : Int) (hx : W32 x) (hy : W32 y) (σ : Sg) : Vc 5 nn407.1 nb407.1 [⟨#[111, 112]⟩, ⟨#[111, 110, 101]⟩, ⟨#[111, 116, 104, 101, 114]⟩] [.str (O2.nm .shr), .int x, .int y] σ (LP (sem2 .shr x y) σ) := by
  have hx' : 0 ≤ x ∧ x < 4294967296 := hx
  have hy' : 0 ≤ y ∧ y < 4294967296 := hy
  unfold Vc
  repeat' ((first | change @Bool.rec (fun _ => Prop) _ _ _ | change RP _ _ _ _ _ | change CT _ _ _ _ _ | change And _ _ | change WM _ _ _ | change Ok _ _ _ | conv => whnf); first
    | refine WIf.mk (fun hc => ?_) (fun hc => ?_)
    | refine ForI.mk ?_
    | refine And.intro (by first | decide | (first | lia | omega)) ?_
    | refine LP.mk ?_)
  refine two_loop (O2.nm .shr) x y ?_
  obtain ⟨t, ht⟩ : ∃ t : Int, t = 2 ^ (y % 32).toNat := ⟨_, rfl⟩
  rw [← ht]
  repeat' ((first | change @Bool.rec (fun _ => Prop) _ _ _ | change RP _ _ _ _ _ | change CT _ _ _ _ _ | change And _ _ | change WM _ _ _ | change Ok _ _ _ | conv => whnf); first
    | refine WIf.mk (fun hc => ?_) (fun hc => ?_)
    | refine ForI.mk ?_
    | refine And.intro (by first | decide | (first | lia | omega) | exact ⟨by decide, and_small hx hy⟩ | exact ⟨by (first | lia | omega), by rw [ht]; exact two_lt (by (first | lia | omega))⟩ | exact ⟨by rw [ht]; exact Int.ne_of_gt (pow_pos _), by rw [ht]; exact two_lt (by (first | lia | omega))⟩) ?_
    | refine LP.mk ?_)
  all_goals first
    | exact tw_shr ht

theorem vc_two_sar (x y : Int) (hx : W32 x) (hy : W32 y) (σ : Sg) : Vc 5 nn407.1 nb407.1 [⟨#[111, 112]⟩, ⟨#[111, 110, 101]⟩, ⟨#[111, 116, 104, 101, 114]⟩] [.str (O2.nm .sar), .int x, .int y] σ (LP (sem2 .sar x y) σ) := by
  have hx' : 0 ≤ x ∧ x < 4294967296 := hx
  have hy' : 0 ≤ y ∧ y < 4294967296 := hy
  unfold Vc
  repeat' ((first | change @Bool.rec (fun _ => Prop) _ _ _ | change RP _ _ _ _ _ | change CT _ _ _ _ _ | change And _ _ | change WM _ _ _ | change Ok _ _ _ | conv => whnf); first
    | refine WIf.mk (fun hc => ?_) (fun hc => ?_)
    | refine ForI.mk ?_
    | refine And.intro (by first | decide | (first | lia | omega)) ?_
    | refine LP.mk ?_)
  refine two_loop (O2.nm .sar) x y ?_
  obtain ⟨t, ht⟩ : ∃ t : Int, t = 2 ^ (y % 32).toNat := ⟨_, rfl⟩
  rw [← ht]
  repeat' ((first | change @Bool.rec (fun _ => Prop) _ _ _ | change RP _ _ _ _ _ | change CT _ _ _ _ _ | change And _ _ | change WM _ _ _ | change Ok _ _ _ | conv => whnf); first
    | refine WIf.mk (fun hc => ?_) (fun hc => ?_)
    | refine ForI.mk ?_
    | refine And.intro (by first | decide | (first | lia | omega) | exact ⟨by decide, and_small hx hy⟩ | exact ⟨by (first | lia | omega), by rw [ht]; exact two_lt (by (first | lia | omega))⟩ | exact ⟨by rw [ht]; exact Int.ne_of_gt (pow_pos _), by rw [ht]; exact two_lt (by (first | lia | omega))⟩) ?_
    | refine LP.mk ?_)
  all_goals first
    | exact tw_sar (by first | exact sg_t (by assumption) | exact sg_f (by assumption)) ht

theorem vc_two_lt (x y : Int) (hx : W32 x) (hy : W32 y) (σ : Sg) : Vc 5 nn407.1 nb407.1 [⟨#[111, 112]⟩, ⟨#[111, 110, 101]⟩, ⟨#[111, 116, 104, 101, 114]⟩] [.str (O2.nm .lt), .int x, .int y] σ (LP (sem2 .lt x y) σ) := by
  have hx' : 0 ≤ x ∧ x < 4294967296 := hx
  have hy' : 0 ≤ y ∧ y < 4294967296 := hy
  unfold Vc
  repeat' ((first | change @Bool.rec (fun _ => Prop) _ _ _ | change RP _ _ _ _ _ | change CT _ _ _ _ _ | change And _ _ | change WM _ _ _ | change Ok _ _ _ | conv => whnf); first
    | refine WIf.mk (fun hc => ?_) (fun hc => ?_)
    | refine ForI.mk ?_
    | refine And.intro (by first | decide | (first | lia | omega)) ?_
    | refine LP.mk ?_)
  refine two_loop (O2.nm .lt) x y ?_
  obtain ⟨t, ht⟩ : ∃ t : Int, t = 2 ^ (y % 32).toNat := ⟨_, rfl⟩
  rw [← ht]
  repeat' ((first | change @Bool.rec (fun _ => Prop) _ _ _ | change RP _ _ _ _ _ | change CT _ _ _ _ _ | change And _ _ | change WM _ _ _ | change Ok _ _ _ | conv => whnf); first
    | refine WIf.mk (fun hc => ?_) (fun hc => ?_)
    | refine ForI.mk ?_
    | refine And.intro (by first | decide | (first | lia | omega) | exact ⟨by decide, and_small hx hy⟩ | exact ⟨by (first | lia | omega), by rw [ht]; exact two_lt (by (first | lia | omega))⟩ | exact ⟨by rw [ht]; exact Int.ne_of_gt (pow_pos _), by rw [ht]; exact two_lt (by (first | lia | omega))⟩) ?_
    | refine LP.mk ?_)
  all_goals first
    | exact tw_lt (by first | exact sg_t (by assumption) | exact sg_f (by assumption)) (by first | exact sg_t (by assumption) | exact sg_f (by assumption))

theorem vc_two_ltu (x y : Int) (hx : W32 x) (hy : W32 y) (σ : Sg) : Vc 5 nn407.1 nb407.1 [⟨#[111, 112]⟩, ⟨#[111, 110, 101]⟩, ⟨#[111, 116, 104, 101, 114]⟩] [.str (O2.nm .ltu), .int x, .int y] σ (LP (sem2 .ltu x y) σ) := by
  have hx' : 0 ≤ x ∧ x < 4294967296 := hx
  have hy' : 0 ≤ y ∧ y < 4294967296 := hy
  unfold Vc
  repeat' ((first | change @Bool.rec (fun _ => Prop) _ _ _ | change RP _ _ _ _ _ | change CT _ _ _ _ _ | change And _ _ | change WM _ _ _ | change Ok _ _ _ | conv => whnf); first
    | refine ForI.mk ?_
    | refine And.intro (by first | decide | (first | lia | omega)) ?_
    | refine LP.mk ?_)
  refine two_loop (O2.nm .ltu) x y ?_
  obtain ⟨t, ht⟩ : ∃ t : Int, t = 2 ^ (y % 32).toNat := ⟨_, rfl⟩
  rw [← ht]
  repeat' ((first | change @Bool.rec (fun _ => Prop) _ _ _ | change RP _ _ _ _ _ | change CT _ _ _ _ _ | change And _ _ | change WM _ _ _ | change Ok _ _ _ | conv => whnf); first
    | refine ForI.mk ?_
    | refine And.intro (by first | decide | (first | lia | omega) | exact ⟨by decide, and_small hx hy⟩ | exact ⟨by (first | lia | omega), by rw [ht]; exact two_lt (by (first | lia | omega))⟩ | exact ⟨by rw [ht]; exact Int.ne_of_gt (pow_pos _), by rw [ht]; exact two_lt (by (first | lia | omega))⟩) ?_
    | refine LP.mk ?_)
  all_goals first
    | exact tw_ltu

theorem vc_two_eq (x y : Int) (hx : W32 x) (hy : W32 y) (σ : Sg) : Vc 5 nn407.1 nb407.1 [⟨#[111, 112]⟩, ⟨#[111, 110, 101]⟩, ⟨#[111, 116, 104, 101, 114]⟩] [.str (O2.nm .eq), .int x, .int y] σ (LP (sem2 .eq x y) σ) := by
  have hx' : 0 ≤ x ∧ x < 4294967296 := hx
  have hy' : 0 ≤ y ∧ y < 4294967296 := hy
  unfold Vc
  repeat' ((first | change @Bool.rec (fun _ => Prop) _ _ _ | change RP _ _ _ _ _ | change CT _ _ _ _ _ | change And _ _ | change WM _ _ _ | change Ok _ _ _ | conv => whnf); first
    | refine ForI.mk ?_
    | refine And.intro (by first | decide | (first | lia | omega)) ?_
    | refine LP.mk ?_)
  refine two_loop (O2.nm .eq) x y ?_
  obtain ⟨t, ht⟩ : ∃ t : Int, t = 2 ^ (y % 32).toNat := ⟨_, rfl⟩
  rw [← ht]
  repeat' ((first | change @Bool.rec (fun _ => Prop) _ _ _ | change RP _ _ _ _ _ | change CT _ _ _ _ _ | change And _ _ | change WM _ _ _ | change Ok _ _ _ | conv => whnf); first
    | refine ForI.mk ?_
    | refine And.intro (by first | decide | (first | lia | omega) | exact ⟨by decide, and_small hx hy⟩ | exact ⟨by (first | lia | omega), by rw [ht]; exact two_lt (by (first | lia | omega))⟩ | exact ⟨by rw [ht]; exact Int.ne_of_gt (pow_pos _), by rw [ht]; exact two_lt (by (first | lia | omega))⟩) ?_
    | refine LP.mk ?_)
  all_goals first
    | exact tw_eq

theorem vc_two_ne (x y : Int) (hx : W32 x) (hy : W32 y) (σ : Sg) : Vc 5 nn407.1 nb407.1 [⟨#[111, 112]⟩, ⟨#[111, 110, 101]⟩, ⟨#[111, 116, 104, 101, 114]⟩] [.str (O2.nm .ne), .int x, .int y] σ (LP (sem2 .ne x y) σ) := by
  have hx' : 0 ≤ x ∧ x < 4294967296 := hx
  have hy' : 0 ≤ y ∧ y < 4294967296 := hy
  unfold Vc
  repeat' ((first | change @Bool.rec (fun _ => Prop) _ _ _ | change RP _ _ _ _ _ | change CT _ _ _ _ _ | change And _ _ | change WM _ _ _ | change Ok _ _ _ | conv => whnf); first
    | refine ForI.mk ?_
    | refine And.intro (by first | decide | (first | lia | omega)) ?_
    | refine LP.mk ?_)
  refine two_loop (O2.nm .ne) x y ?_
  obtain ⟨t, ht⟩ : ∃ t : Int, t = 2 ^ (y % 32).toNat := ⟨_, rfl⟩
  rw [← ht]
  repeat' ((first | change @Bool.rec (fun _ => Prop) _ _ _ | change RP _ _ _ _ _ | change CT _ _ _ _ _ | change And _ _ | change WM _ _ _ | change Ok _ _ _ | conv => whnf); first
    | refine ForI.mk ?_
    | refine And.intro (by first | decide | (first | lia | omega) | exact ⟨by decide, and_small hx hy⟩ | exact ⟨by (first | lia | omega), by rw [ht]; exact two_lt (by (first | lia | omega))⟩ | exact ⟨by rw [ht]; exact Int.ne_of_gt (pow_pos _), by rw [ht]; exact two_lt (by (first | lia | omega))⟩) ?_
    | refine LP.mk ?_)
  all_goals first
    | exact tw_ne

end Mine.Internal

end
section
open PySem PySem.W PyProof.Rows PySem.Calls
set_option Elab.async false
set_option tactic.hygienic false
set_option maxRecDepth 100000
set_option maxHeartbeats 4000000
set_option linter.all false
set_option backward.match.sparseCases false
set_option bootstrap.genMatcherCode false
namespace Mine.Internal
theorem vc_draw (cells : List Int) (n : Nat) (x size : Int) (h : InvS ⟨cells, Int.ofNat n, x⟩) (hs : 1 ≤ size ∧ size ≤ 65536) : Vc 3 nn372.1 nb372.1 [⟨#[119, 101, 108, 108]⟩, ⟨#[115, 105, 122, 101]⟩] [.wel, .int size] ⟨cells, Int.ofNat n, x⟩ (DrP size) := by
  by_cases hlt : n < cells.length
  · have hd0 : decide (Int.ofNat n < ((List.map D.int cells).length : Int)) = true := by simpa using hlt
    have he : (List.map D.int cells)[n]? = some (.int cells[n]) := by simp [hlt]
    unfold Vc
    repeat' ((first | change @Bool.rec (fun _ => Prop) _ _ _ | change RP _ _ _ _ _ | change CT _ _ _ _ _ | change And _ _ | change WM _ _ _ | change Ok _ _ _ | conv => whnf); first
      | refine WIf.on (by with_reducible assumption) ?_
      | refine WIf.off (by with_reducible assumption) ?_
      | refine And.intro (by first | decide | (first | lia | omega) | (have hx := h.x; dsimp only at hx ⊢; exact ⟨by (first | lia | omega), by decide⟩) | exact ⟨by decide, by decide⟩ | (show size ≠ 0; (first | lia | omega))) ?_
      | rw [he])
    all_goals exact DrP.mk (fm_nn hs) (fm_lt hs) ⟨⟨n + 1, rfl⟩, h.cells, fm_x⟩
  · have hd0 : decide (Int.ofNat n < ((List.map D.int cells).length : Int)) = false := by simpa using hlt
    unfold Vc
    repeat' ((first | change @Bool.rec (fun _ => Prop) _ _ _ | change RP _ _ _ _ _ | change CT _ _ _ _ _ | change And _ _ | change WM _ _ _ | change Ok _ _ _ | conv => whnf); first
      | refine WIf.on (by with_reducible assumption) ?_
      | refine WIf.off (by with_reducible assumption) ?_
      | refine And.intro (by first | decide | (first | lia | omega) | (have hx := h.x; dsimp only at hx ⊢; exact ⟨by (first | lia | omega), by decide⟩) | exact ⟨by decide, by decide⟩ | (show size ≠ 0; (first | lia | omega))) ?_
      | rw [he])
    all_goals exact DrP.mk (fm_nn hs) (fm_lt hs) ⟨⟨n + 1, rfl⟩, h.cells, fm_x⟩
end Mine.Internal

end
section
open PySem PySem.W PyProof.Rows PySem.Calls
set_option Elab.async false
set_option tactic.hygienic false
set_option maxRecDepth 100000
set_option maxHeartbeats 4000000
set_option linter.all false
set_option backward.match.sparseCases false
set_option bootstrap.genMatcherCode false
namespace Mine.Internal
theorem vc_cell (σ : Sg) (h : InvS σ) : Vc 4 nn379.1 nb379.1 [⟨#[119, 101, 108, 108]⟩] [.wel] σ CeP := by
  unfold Vc
  repeat' ((first | change @Bool.rec (fun _ => Prop) _ _ _ | change RP _ _ _ _ _ | change CT _ _ _ _ _ | change And _ _ | change WM _ _ _ | change Ok _ _ _ | conv => whnf); first
    | refine WIf.mk (fun hc => ?_) (fun hc => ?_)
    | refine And.intro (by first | decide | omega | (have hq : m < 65536 := hm; exact ⟨by show m < 2 ^ 63; omega, by decide⟩)) ?_
    | refine CT.ldraw rfl (by assumption) (by first | exact ⟨by decide, by decide⟩ | exact ⟨by show (1 : Int) ≤ (n : Int) + 2; omega, by show (n : Int) + 2 ≤ 65536; omega⟩) (fun m s1 hm hi => ?_)
    | refine idx_all (by have := of_dec hc; simpa using Int.ofNat_lt.mp this) (allW_spec rfl) (fun v hv => ?_)
    | refine CeP.mk ?_ (by assumption))
  all_goals first
    | assumption
    | exact c_two (by assumption) hm
    | exact c_one (by assumption) hm
theorem vc_opd (σ : Sg) (h : InvS σ) (n : Nat) (hn : n ≤ 60000) : Vc 5 nn386.1 nb386.1 [⟨#[119, 101, 108, 108]⟩, ⟨#[109, 97, 110, 121]⟩] [.wel, .int (Int.ofNat n)] σ (OpP n) := by
  unfold Vc
  repeat' ((first | change @Bool.rec (fun _ => Prop) _ _ _ | change RP _ _ _ _ _ | change CT _ _ _ _ _ | change And _ _ | change WM _ _ _ | change Ok _ _ _ | conv => whnf); first
    | refine WIf.mk (fun hc => ?_) (fun hc => ?_)
    | refine And.intro (by first | decide | omega) ?_
    | refine CT.ldraw rfl (by assumption) (by first | exact ⟨by decide, by decide⟩ | exact ⟨by show (1 : Int) ≤ (n : Int) + 2; omega, by show (n : Int) + 2 ≤ 65536; omega⟩) (fun m s1 hm hi => ?_)
    | refine CT.lcell rfl (by assumption) (fun v s1 hv hi => ?_)
    | exact o_r hc hi
    | exact o_k hv hi)
end Mine.Internal

end
section
open PySem PySem.W PyProof.Rows PySem.Calls
set_option Elab.async false
set_option tactic.hygienic false
set_option maxRecDepth 100000
set_option maxHeartbeats 4000000
set_option linter.all false
set_option backward.match.sparseCases false
set_option bootstrap.genMatcherCode false
namespace Mine.Internal
theorem vc_told_two_kk (V : List Int) (hV : AllV V) (o : O2) (u : Int) (v : Int) (ha : W32 u) (hb : W32 v) (σ : Sg) : Vt 6 nn419.1 nb419.1 [⟨#[115, 104, 97, 112, 101]⟩, ⟨#[118, 97, 108, 117, 101, 115]⟩] [Shp.d (.two o (.k u) (.k v)), .lst (V.map D.int)] σ (TdP V (.two o (.k u) (.k v)) σ) := by
  unfold Vt
  repeat' ((first | change @Bool.rec (fun _ => Prop) _ _ _ | change RP _ _ _ _ _ | change CT _ _ _ _ _ | change And _ _ | change WM _ _ _ | change Ok _ _ _ | conv => whnf); first
    | refine WIf.off (in2_cc _) ?_
    | refine WIf.off (in1_cc _) ?_
    | refine WIf.on (in2_twos _) ?_
    | refine WIf.off (in1_twos _) ?_
    | refine WIf.on (in1_ones _) ?_
    | refine CT.ltwo (o := o) rfl (by first | assumption | exact hV _ (by assumption)) (by first | assumption | exact hV _ (by assumption)) ?_
    | exact TdP.mk rfl
    | exact TdP.mk (lone (fm _))
    | refine WIf.on (by with_reducible assumption) ?_
    | refine WIf.off (by with_reducible assumption) ?_
    | refine wif2n rfl ?_
    | refine And.intro (by first | decide | (first | lia | omega) | exact ⟨by decide, by decide⟩) ?_)
theorem vc_told_two_kr (V : List Int) (hV : AllV V) (o : O2) (u : Int) (j : Nat) (ha : W32 u) (hb : j < V.length) (σ : Sg) : Vt 6 nn419.1 nb419.1 [⟨#[115, 104, 97, 112, 101]⟩, ⟨#[118, 97, 108, 117, 101, 115]⟩] [Shp.d (.two o (.k u) (.r j)), .lst (V.map D.int)] σ (TdP V (.two o (.k u) (.r j)) σ) := by
  unfold Vt
  repeat' ((first | change @Bool.rec (fun _ => Prop) _ _ _ | change RP _ _ _ _ _ | change CT _ _ _ _ _ | change And _ _ | change WM _ _ _ | change Ok _ _ _ | conv => whnf); first
    | refine WIf.off (in2_cc _) ?_
    | refine WIf.off (in1_cc _) ?_
    | refine WIf.on (in2_twos _) ?_
    | refine WIf.off (in1_twos _) ?_
    | refine WIf.on (in1_ones _) ?_
    | refine idx_val (by assumption) ?_
    | refine CT.ltwo (o := o) rfl (by first | assumption | exact hV _ (by assumption)) (by first | assumption | exact hV _ (by assumption)) ?_
    | exact TdP.mk rfl
    | exact TdP.mk (lone (fm _))
    | refine WIf.on (by with_reducible assumption) ?_
    | refine WIf.off (by with_reducible assumption) ?_
    | refine wif2n rfl ?_
    | refine And.intro (by first | decide | (first | lia | omega) | exact ⟨by decide, by decide⟩) ?_)
theorem vc_told_two_rk (V : List Int) (hV : AllV V) (o : O2) (i : Nat) (v : Int) (ha : i < V.length) (hb : W32 v) (σ : Sg) : Vt 6 nn419.1 nb419.1 [⟨#[115, 104, 97, 112, 101]⟩, ⟨#[118, 97, 108, 117, 101, 115]⟩] [Shp.d (.two o (.r i) (.k v)), .lst (V.map D.int)] σ (TdP V (.two o (.r i) (.k v)) σ) := by
  unfold Vt
  repeat' ((first | change @Bool.rec (fun _ => Prop) _ _ _ | change RP _ _ _ _ _ | change CT _ _ _ _ _ | change And _ _ | change WM _ _ _ | change Ok _ _ _ | conv => whnf); first
    | refine WIf.off (in2_cc _) ?_
    | refine WIf.off (in1_cc _) ?_
    | refine WIf.on (in2_twos _) ?_
    | refine WIf.off (in1_twos _) ?_
    | refine WIf.on (in1_ones _) ?_
    | refine idx_val (by assumption) ?_
    | refine CT.ltwo (o := o) rfl (by first | assumption | exact hV _ (by assumption)) (by first | assumption | exact hV _ (by assumption)) ?_
    | exact TdP.mk rfl
    | exact TdP.mk (lone (fm _))
    | refine WIf.on (by with_reducible assumption) ?_
    | refine WIf.off (by with_reducible assumption) ?_
    | refine wif2n rfl ?_
    | refine And.intro (by first | decide | (first | lia | omega) | exact ⟨by decide, by decide⟩) ?_)
theorem vc_told_two_rr (V : List Int) (hV : AllV V) (o : O2) (i : Nat) (j : Nat) (ha : i < V.length) (hb : j < V.length) (σ : Sg) : Vt 6 nn419.1 nb419.1 [⟨#[115, 104, 97, 112, 101]⟩, ⟨#[118, 97, 108, 117, 101, 115]⟩] [Shp.d (.two o (.r i) (.r j)), .lst (V.map D.int)] σ (TdP V (.two o (.r i) (.r j)) σ) := by
  unfold Vt
  repeat' ((first | change @Bool.rec (fun _ => Prop) _ _ _ | change RP _ _ _ _ _ | change CT _ _ _ _ _ | change And _ _ | change WM _ _ _ | change Ok _ _ _ | conv => whnf); first
    | refine WIf.off (in2_cc _) ?_
    | refine WIf.off (in1_cc _) ?_
    | refine WIf.on (in2_twos _) ?_
    | refine WIf.off (in1_twos _) ?_
    | refine WIf.on (in1_ones _) ?_
    | refine idx_val (by assumption) ?_
    | refine CT.ltwo (o := o) rfl (by first | assumption | exact hV _ (by assumption)) (by first | assumption | exact hV _ (by assumption)) ?_
    | exact TdP.mk rfl
    | exact TdP.mk (lone (fm _))
    | refine WIf.on (by with_reducible assumption) ?_
    | refine WIf.off (by with_reducible assumption) ?_
    | refine wif2n rfl ?_
    | refine And.intro (by first | decide | (first | lia | omega) | exact ⟨by decide, by decide⟩) ?_)
theorem vc_told_one_k (V : List Int) (hV : AllV V) (o : O1) (u : Int) (ha : W32 u) (σ : Sg) : Vt 6 nn419.1 nb419.1 [⟨#[115, 104, 97, 112, 101]⟩, ⟨#[118, 97, 108, 117, 101, 115]⟩] [Shp.d (.one o (.k u)), .lst (V.map D.int)] σ (TdP V (.one o (.k u)) σ) := by
  unfold Vt
  repeat' ((first | change @Bool.rec (fun _ => Prop) _ _ _ | change RP _ _ _ _ _ | change CT _ _ _ _ _ | change And _ _ | change WM _ _ _ | change Ok _ _ _ | conv => whnf); first
    | refine WIf.off (in2_cc _) ?_
    | refine WIf.off (in1_cc _) ?_
    | refine WIf.on (in2_twos _) ?_
    | refine WIf.off (in1_twos _) ?_
    | refine WIf.on (in1_ones _) ?_
    | refine CT.lone (o := o) rfl (by first | assumption | exact hV _ (by assumption)) ?_
    | exact TdP.mk rfl
    | exact TdP.mk (lone (fm _))
    | refine WIf.on (by with_reducible assumption) ?_
    | refine WIf.off (by with_reducible assumption) ?_
    | refine wif1n rfl ?_
    | refine And.intro (by first | decide | (first | lia | omega) | exact ⟨by decide, by decide⟩) ?_)
theorem vc_told_const_k (V : List Int) (hV : AllV V) (u : Int) (ha : W32 u) (σ : Sg) : Vt 6 nn419.1 nb419.1 [⟨#[115, 104, 97, 112, 101]⟩, ⟨#[118, 97, 108, 117, 101, 115]⟩] [Shp.d (.const (.k u)), .lst (V.map D.int)] σ (TdP V (.const (.k u)) σ) := by
  unfold Vt
  repeat' ((first | change @Bool.rec (fun _ => Prop) _ _ _ | change RP _ _ _ _ _ | change CT _ _ _ _ _ | change And _ _ | change WM _ _ _ | change Ok _ _ _ | conv => whnf); first
    | exact TdP.mk rfl
    | exact TdP.mk (lone (fm _))
    | refine And.intro (by first | decide | (first | lia | omega) | exact ⟨by decide, by decide⟩) ?_)
theorem vc_told_copy_k (V : List Int) (hV : AllV V) (u : Int) (ha : W32 u) (σ : Sg) : Vt 6 nn419.1 nb419.1 [⟨#[115, 104, 97, 112, 101]⟩, ⟨#[118, 97, 108, 117, 101, 115]⟩] [Shp.d (.copy (.k u)), .lst (V.map D.int)] σ (TdP V (.copy (.k u)) σ) := by
  unfold Vt
  repeat' ((first | change @Bool.rec (fun _ => Prop) _ _ _ | change RP _ _ _ _ _ | change CT _ _ _ _ _ | change And _ _ | change WM _ _ _ | change Ok _ _ _ | conv => whnf); first
    | exact TdP.mk rfl
    | exact TdP.mk (lone (fm _))
    | refine And.intro (by first | decide | (first | lia | omega) | exact ⟨by decide, by decide⟩) ?_)
theorem vc_told_one_r (V : List Int) (hV : AllV V) (o : O1) (i : Nat) (ha : i < V.length) (σ : Sg) : Vt 6 nn419.1 nb419.1 [⟨#[115, 104, 97, 112, 101]⟩, ⟨#[118, 97, 108, 117, 101, 115]⟩] [Shp.d (.one o (.r i)), .lst (V.map D.int)] σ (TdP V (.one o (.r i)) σ) := by
  unfold Vt
  repeat' ((first | change @Bool.rec (fun _ => Prop) _ _ _ | change RP _ _ _ _ _ | change CT _ _ _ _ _ | change And _ _ | change WM _ _ _ | change Ok _ _ _ | conv => whnf); first
    | refine WIf.off (in2_cc _) ?_
    | refine WIf.off (in1_cc _) ?_
    | refine WIf.on (in2_twos _) ?_
    | refine WIf.off (in1_twos _) ?_
    | refine WIf.on (in1_ones _) ?_
    | refine idx_val (by assumption) ?_
    | refine CT.lone (o := o) rfl (by first | assumption | exact hV _ (by assumption)) ?_
    | exact TdP.mk rfl
    | exact TdP.mk (lone (fm _))
    | refine WIf.on (by with_reducible assumption) ?_
    | refine WIf.off (by with_reducible assumption) ?_
    | refine wif1n rfl ?_
    | refine And.intro (by first | decide | (first | lia | omega) | exact ⟨by decide, by decide⟩) ?_)
theorem vc_told_const_r (V : List Int) (hV : AllV V) (i : Nat) (ha : i < V.length) (σ : Sg) : Vt 6 nn419.1 nb419.1 [⟨#[115, 104, 97, 112, 101]⟩, ⟨#[118, 97, 108, 117, 101, 115]⟩] [Shp.d (.const (.r i)), .lst (V.map D.int)] σ (TdP V (.const (.r i)) σ) := by
  unfold Vt
  repeat' ((first | change @Bool.rec (fun _ => Prop) _ _ _ | change RP _ _ _ _ _ | change CT _ _ _ _ _ | change And _ _ | change WM _ _ _ | change Ok _ _ _ | conv => whnf); first
    | refine idx_val (by assumption) ?_
    | exact TdP.mk rfl
    | exact TdP.mk (lone (fm _))
    | refine And.intro (by first | decide | (first | lia | omega) | exact ⟨by decide, by decide⟩) ?_)
theorem vc_told_copy_r (V : List Int) (hV : AllV V) (i : Nat) (ha : i < V.length) (σ : Sg) : Vt 6 nn419.1 nb419.1 [⟨#[115, 104, 97, 112, 101]⟩, ⟨#[118, 97, 108, 117, 101, 115]⟩] [Shp.d (.copy (.r i)), .lst (V.map D.int)] σ (TdP V (.copy (.r i)) σ) := by
  unfold Vt
  repeat' ((first | change @Bool.rec (fun _ => Prop) _ _ _ | change RP _ _ _ _ _ | change CT _ _ _ _ _ | change And _ _ | change WM _ _ _ | change Ok _ _ _ | conv => whnf); first
    | refine idx_val (by assumption) ?_
    | exact TdP.mk rfl
    | exact TdP.mk (lone (fm _))
    | refine And.intro (by first | decide | (first | lia | omega) | exact ⟨by decide, by decide⟩) ?_)
theorem vc_told_name_true (V : List Int) (hV : AllV V) (off : Int)  (σ : Sg) : Vt 6 nn419.1 nb419.1 [⟨#[115, 104, 97, 112, 101]⟩, ⟨#[118, 97, 108, 117, 101, 115]⟩] [Shp.d (.name true off), .lst (V.map D.int)] σ (TdP V (.name true off) σ) := by
  unfold Vt
  repeat' ((first | change @Bool.rec (fun _ => Prop) _ _ _ | change RP _ _ _ _ _ | change CT _ _ _ _ _ | change And _ _ | change WM _ _ _ | change Ok _ _ _ | conv => whnf); first
    | exact TdP.mk rfl
    | exact TdP.mk (lone (fm _))
    | refine And.intro (by first | decide | (first | lia | omega) | exact ⟨by decide, by decide⟩) ?_)
theorem vc_told_name_false (V : List Int) (hV : AllV V) (off : Int)  (σ : Sg) : Vt 6 nn419.1 nb419.1 [⟨#[115, 104, 97, 112, 101]⟩, ⟨#[118, 97, 108, 117, 101, 115]⟩] [Shp.d (.name false off), .lst (V.map D.int)] σ (TdP V (.name false off) σ) := by
  unfold Vt
  repeat' ((first | change @Bool.rec (fun _ => Prop) _ _ _ | change RP _ _ _ _ _ | change CT _ _ _ _ _ | change And _ _ | change WM _ _ _ | change Ok _ _ _ | conv => whnf); first
    | exact TdP.mk rfl
    | exact TdP.mk (lone (fm _))
    | refine And.intro (by first | decide | (first | lia | omega) | exact ⟨by decide, by decide⟩) ?_)
end Mine.Internal

end
section
open PySem PySem.W PyProof.Rows PySem.Calls
set_option Elab.async false
set_option tactic.hygienic false
set_option maxRecDepth 100000
set_option maxHeartbeats 4000000
set_option linter.all false
set_option backward.match.sparseCases false
set_option bootstrap.genMatcherCode false
namespace Mine.Internal
theorem vc_load (σ : Sg) (h : InvS σ) : Vc 5 nn426.1 nb426.1 [⟨#[119, 101, 108, 108]⟩] [.wel] σ LdP := by
  unfold Vc
  repeat' ((first | change @Bool.rec (fun _ => Prop) _ _ _ | change RP _ _ _ _ _ | change CT _ _ _ _ _ | change And _ _ | change WM _ _ _ | change Ok _ _ _ | conv => whnf); first
    | refine CT.ldraw rfl (by assumption) ⟨by decide, by decide⟩ (fun m s1 hm hi => ?_)
    | refine idx_conj (by exact hm) ⟨?_, ?_, ?_, ?_, ?_, trivial⟩
    | refine CT.lcell rfl (by assumption) (fun v s1 hv hi => ?_)
    | refine CT.lone (o := .sx8) rfl hv ?_
    | refine CT.lone (o := .zx8) rfl hv ?_
    | refine CT.lone (o := .sx16) rfl hv ?_
    | refine CT.lone (o := .zx16) rfl hv ?_
    | exact LdP.mk (.inl rfl) (sem1_W hv) ld_s8 (by assumption)
    | exact LdP.mk (.inl rfl) (sem1_W hv) ld_z8 (by assumption)
    | exact LdP.mk (.inr (.inl rfl)) (sem1_W hv) ld_s16 (by assumption)
    | exact LdP.mk (.inr (.inl rfl)) (sem1_W hv) ld_z16 (by assumption)
    | exact LdP.mk (.inr (.inr rfl)) hv (ldk rfl) (by assumption)
    | refine And.intro (by first | decide | (first | lia | omega)) ?_)
theorem vc_shape (V : List Int) (hV : AllV V) (hl : 3 ≤ V.length ∧ V.length ≤ 9) (σ : Sg) (h : InvS σ) : Vc 7 nn431.1 nb431.1 [⟨#[119, 101, 108, 108]⟩, ⟨#[109, 97, 110, 121]⟩, ⟨#[118, 97, 108, 117, 101, 115]⟩] [.wel, .int (Int.ofNat V.length), .lst (V.map D.int)] σ (ShP V) := by
  unfold Vc
  repeat' ((first | change @Bool.rec (fun _ => Prop) _ _ _ | change RP _ _ _ _ _ | change CT _ _ _ _ _ | change And _ _ | change WM _ _ _ | change Ok _ _ _ | conv => whnf); first
    | refine CT.ldraw rfl (by assumption) ⟨by decide, by decide⟩ (fun m s1 hm hi => ?_)
    | refine idx_conj (l := [_, _]) (by exact hm) ⟨?_, ?_, trivial⟩
    | refine idx_o1 (by exact hm) rfl (fun o => ?_)
    | refine idx_o2 (by exact hm) rfl (fun o hd1 hd2 => ?_)
    | refine CT.lload rfl (by assumption) (fun w s v s1 h1 h2 h3 hi => ?_)
    | refine CT.lopd (m := V.length) rfl (by assumption) (by (first | lia | omega)) (fun b s2 hb hi2 => ?_)
    | refine CT.ltold (V := V) (s := .name false _) rfl hV trivial (fun _ _ e => nomatch e) (fun hn => nomatch hn) (fun z hz hw => ?_)
    | refine CT.ltold (V := V) (s := .name true _) rfl hV trivial (fun _ _ e => nomatch e) (fun hn => nomatch hn) (fun z hz hw => ?_)
    | refine CT.ltold (V := V) (s := .one o b) rfl hV hb (fun _ _ e => nomatch e) (fun hn => nomatch hn) (fun z hz hw => ?_)
    | refine CT.ltold (V := V) (s := .two o _ (.k 3)) rfl hV ⟨by assumption, k3_wf⟩ (fun _ _ e => nomatch e) (fun hn2 => absurd hn2 (no_none3 hd1 hd2)) (fun z hz hw => ?_)
    | refine CT.ltold (V := V) (s := .two o _ _) rfl hV ⟨by assumption, by assumption⟩ (fun _ _ e => nomatch e) (fun hn => ?_) (fun z hz hw => ?_)
    | exact ShP.mk rfl (sok_two (by assumption) (by first | exact k3_wf | assumption) hz hw) (by assumption)
    | exact ShP.mk rfl (sok_load h1 h2 h3) (by assumption)
    | exact ShP.mk rfl (sok_name hz hw) (by assumption)
    | exact ShP.mk rfl (sok_one hb hz hw) (by assumption)
    | refine WIf.mk (fun hc => ?_) (fun hc => ?_)
    | refine And.intro (by first | decide | (first | lia | omega)) ?_)
end Mine.Internal

end
section
open PySem PySem.W PyProof.Rows
set_option Elab.async false
set_option tactic.hygienic false
set_option backward.match.sparseCases false
set_option bootstrap.genMatcherCode false
namespace Mine.Internal
theorem enumV {V : List Int} {i : Nat} {d : D} (h : (enumD 0 (V.map D.int))[i]? = some d) : i < V.length ∧ d = .tup [.int (Int.ofNat i), .int (V.getD i 0)] := by
  have hl : (enumD 0 (V.map D.int)).length = V.length := by rw [enumD_length, List.length_map]
  have hi : i < V.length := hl ▸ (List.getElem?_eq_some_iff.mp h).1
  have e : (V.map D.int)[i]? = some (.int (V.getD i 0)) := by
    rw [List.getElem?_map, List.getElem?_eq_getElem hi, List.getD_eq_getElem?_getD, List.getElem?_eq_getElem hi]; rfl
  have := enumD_get _ 0 i _ e
  rw [this] at h
  cases h
  exact ⟨hi, by rw [Nat.zero_add]⟩
theorem le_on {lo X v : Int} (hX : X = sg v) (h : lo ≤ sg v) : decide (lo ≤ X) = true := by subst hX; exact decide_eq_true h
theorem le_off {X hi v : Int} (hX : X = sg v) (h : sg v ≤ hi) : (!decide (X ≤ hi)) = false := by subst hX; rw [decide_eq_true h]; rfl
theorem nd {p : Prop} {_ : Decidable p} (h : p) : (!decide p) = false := by rw [decide_eq_true h]; rfl
theorem span_eq {lo hi x : Int} (h1 : lo = x) (h2 : hi = x) : (!eqb (.tup [.int lo, .int hi]) (.tup [.int x, .int x])) = false := by subst h1 h2; simp [eqb, eqbs]
theorem in_eq8 {x y : Int} (h : x % 2 ^ Int.toNat 8 = y % 2 ^ Int.toNat 8) : x.fmod (Int.ofNat 256) = y.fmod (Int.ofNat 256) := by
  rw [Int.fmod_eq_emod_of_nonneg _ (by decide), Int.fmod_eq_emod_of_nonneg _ (by decide)]; exact h
theorem in_eq16 {x y : Int} (h : x % 2 ^ Int.toNat 16 = y % 2 ^ Int.toNat 16) : x.fmod (Int.ofNat 65536) = y.fmod (Int.ofNat 65536) := by
  rw [Int.fmod_eq_emod_of_nonneg _ (by decide), Int.fmod_eq_emod_of_nonneg _ (by decide)]; exact h
end Mine.Internal

end
section
open PySem PySem.W PyProof.Rows PySem.Calls
set_option Elab.async false
set_option tactic.hygienic false
set_option maxRecDepth 100000
set_option maxHeartbeats 4000000
set_option linter.all false
set_option backward.match.sparseCases false
set_option bootstrap.genMatcherCode false
namespace Mine.Internal
theorem vc_spans (V : List Int) (F : Fcs) (hcn : Con V F) (hV : AllV V) (σ : Sg) : Vc 8 nn438.1 nb438.1 [⟨#[102, 97, 99, 116, 115]⟩, ⟨#[118, 97, 108, 117, 101, 115]⟩] [.fac F.d, .lst (V.map D.int)] σ (TrP σ) := by
  unfold Vc
  conv => whnf
  refine .mk (loop_list (bind := fun d ρ K => tgtW _ _ d ρ K) (body := fun ρ σ K => Rc.ss _ _ _ ρ σ K _) (fun i ρ s => s = σ ∧ ρ = pz [⟨#[102, 97, 99, 116, 115]⟩, ⟨#[118, 97, 108, 117, 101, 115]⟩] [.fac F.d, .lst (V.map D.int)]) (enumD 0 (V.map D.int)) ?_ ?_ (enumD 0 (V.map D.int)) 0 _ _ rfl (Nat.zero_le _) ⟨rfl, rfl⟩)
  · intro i d ρ s hd hI K' hK
    obtain ⟨hi, rfl⟩ := enumV hd
    rcases hI with ⟨rfl, rfl⟩
    repeat' ((first | change @Bool.rec (fun _ => Prop) _ _ _ | change RP _ _ _ _ _ | change CT _ _ _ _ _ | change And _ _ | change WM _ _ _ | change Ok _ _ _ | conv => whnf); first
        | exact TrP.mk
        | refine loop2 (fun K2 hK => ?_) (fun K2 hK => ?_) ?_
        | exact hK _ rfl
        | refine CT.span (V := V) (F := F) (a := .r i) rfl hcn hi (fun lo hi1 h1 h2 h3 h4 => ?_)
        | refine CT.span (V := V) (F := F) (a := .k (V.getD i 0)) rfl hcn (hV i hi) (fun lok hik k1 k2 k3 k4 => ?_)
        | refine WIf.on (le_on (by first | exact sg_t (by assumption) | exact sg_f (by assumption)) h1) ?_
        | refine WIf.off (le_off (by first | exact sg_t (by assumption) | exact sg_f (by assumption)) h2) ?_
        | refine WIf.off (span_eq ((k3 _ rfl).1.trans (Eq.symm (by first | exact sg_t (by assumption) | exact sg_f (by assumption)))) ((k3 _ rfl).2.trans (Eq.symm (by first | exact sg_t (by assumption) | exact sg_f (by assumption))))) ?_
        | refine CT.inner (V := V) (F := F) (i := i) rfl hcn hi (.inl rfl) ?_ (fun u g1 g2 g3 => ?_) (fun x g1 g2 g3 => ?_)
        | refine CT.inner (V := V) (F := F) (i := i) rfl hcn hi (.inr rfl) ?_ (fun u g1 g2 g3 => ?_) (fun x g1 g2 g3 => ?_)
        | refine told_is (V := V) (s := .copy (.k u)) rfl hV (show Opd.wf _ (.k u) from g1) (fun _ _ e => nomatch e) rfl ?_
        | refine told_is (V := V) (s := .copy (.r x)) rfl hV (show x < _ from Nat.lt_trans g1 hi) (fun _ _ e => nomatch e) rfl ?_
        | refine WIf.off (nd (in_eq8 g3)) ?_
        | refine WIf.off (nd (in_eq16 g3)) ?_
        | exact hK _ _ ⟨rfl, rfl⟩
        | refine WIf.on (by with_reducible assumption) ?_
        | refine WIf.off (by with_reducible assumption) ?_
        | refine WIf.mk (fun hc => ?_) (fun hc => ?_)
        | refine ForI.mk ?_
        | refine And.intro (by first | decide | (first | lia | omega)) ?_)
  · intro ρ s hI
    rcases hI with ⟨rfl, rfl⟩
    conv => whnf
    exact TrP.mk
end Mine.Internal

end
section
open PySem PySem.W PyProof.Rows PySem.Calls
set_option Elab.async false
set_option tactic.hygienic false
set_option maxRecDepth 100000
set_option linter.all false
set_option backward.match.sparseCases false
set_option bootstrap.genMatcherCode false
namespace Mine.Internal
noncomputable def nmR (a : Nat) : List (Str × NameKind) := match lkN a outT with
  | some (_, n, b) => n
  | none => []
noncomputable def bdR (a : Nat) : List Stmt := match lkN a outT with
  | some (_, n, b) => b
  | none => []
theorem vc_rule (o : O2) (V : List Int) (F : Fcs) (hcn : Con V F) (a b : Opd) (ha : a.wf V.length) (hb : b.wf V.length) (hp : pre2 o a b) (σ : Sg) : Vc 9 (nmR (ruleAt o)) (bdR (ruleAt o)) prR [.str o.nm, .lst [a.d, b.d], .fac F.d] σ (RP V (.two o a b) σ) := by
  cases o
  · cases a with
    | k u => cases b with
      | k v => exact False.elim hp
      | r j => exact False.elim hp
    | r i => cases b with
      | k v => exact vc_add_rule_add_rk V F hcn i v ha hb σ
      | r j => exact vc_add_rule_add_rr V F hcn i j ha hb σ
  · cases a with
    | k u => cases b with
      | k v => exact False.elim hp
      | r j => exact vc_sub_rule_sub_kr V F hcn u j ha hb σ
    | r i => cases b with
      | k v => exact vc_sub_rule_sub_rk V F hcn i v ha hb σ
      | r j => exact vc_sub_rule_sub_rr V F hcn i j ha hb σ
  · cases a with
    | k u => cases b with
      | k v => exact False.elim hp
      | r j => exact False.elim hp
    | r i => cases b with
      | k v => exact vc_mul_rule_mul_rk V F hcn i v ha hb σ
      | r j => exact vc_mul_rule_mul_rr V F hcn i j ha hb σ
  · cases a with
    | k u => cases b with
      | k v => exact vc_division_rule_div_kk V F hcn u v ha hb hp σ
      | r j => exact vc_division_rule_div_kr V F hcn u j ha hb σ
    | r i => cases b with
      | k v => exact vc_division_rule_div_rk V F hcn i v ha hb σ
      | r j => exact vc_division_rule_div_rr V F hcn i j ha hb σ
  · cases a with
    | k u => cases b with
      | k v => exact vc_unsigned_division_rule_divu_kk V F hcn u v ha hb hp σ
      | r j => exact vc_unsigned_division_rule_divu_kr V F hcn u j ha hb σ
    | r i => cases b with
      | k v => exact vc_unsigned_division_rule_divu_rk V F hcn i v ha hb σ
      | r j => exact vc_unsigned_division_rule_divu_rr V F hcn i j ha hb σ
  · cases a with
    | k u => cases b with
      | k v => exact vc_division_rule_rem_kk V F hcn u v ha hb hp σ
      | r j => exact vc_division_rule_rem_kr V F hcn u j ha hb σ
    | r i => cases b with
      | k v => exact vc_division_rule_rem_rk V F hcn i v ha hb σ
      | r j => exact vc_division_rule_rem_rr V F hcn i j ha hb σ
  · cases a with
    | k u => cases b with
      | k v => exact vc_unsigned_division_rule_remu_kk V F hcn u v ha hb hp σ
      | r j => exact vc_unsigned_division_rule_remu_kr V F hcn u j ha hb σ
    | r i => cases b with
      | k v => exact vc_unsigned_division_rule_remu_rk V F hcn i v ha hb σ
      | r j => exact vc_unsigned_division_rule_remu_rr V F hcn i j ha hb σ
  · cases a with
    | k u => cases b with
      | k v => exact False.elim hp
      | r j => exact False.elim hp
    | r i => cases b with
      | k v => exact vc_and_rule_and_rk V F hcn i v ha hb σ
      | r j => exact vc_and_rule_and_rr V F hcn i j ha hb σ
  · cases a with
    | k u => cases b with
      | k v => exact False.elim hp
      | r j => exact False.elim hp
    | r i => cases b with
      | k v => exact vc_or_rule_or_rk V F hcn i v ha hb σ
      | r j => exact vc_or_rule_or_rr V F hcn i j ha hb σ
  · cases a with
    | k u => cases b with
      | k v => exact False.elim hp
      | r j => exact False.elim hp
    | r i => cases b with
      | k v => exact vc_xor_rule_xor_rk V F hcn i v ha hb σ
      | r j => exact vc_xor_rule_xor_rr V F hcn i j ha hb σ
  · cases a with
    | k u => cases b with
      | k v => exact vc_shift_rule_shl_kk V F hcn u v ha hb hp σ
      | r j => exact vc_shift_rule_shl_kr V F hcn u j ha hb σ
    | r i => cases b with
      | k v => exact vc_shift_rule_shl_rk V F hcn i v ha hb σ
      | r j => exact vc_shift_rule_shl_rr V F hcn i j ha hb σ
  · cases a with
    | k u => cases b with
      | k v => exact vc_shift_rule_shr_kk V F hcn u v ha hb hp σ
      | r j => exact vc_shift_rule_shr_kr V F hcn u j ha hb σ
    | r i => cases b with
      | k v => exact vc_shift_rule_shr_rk V F hcn i v ha hb σ
      | r j => exact vc_shift_rule_shr_rr V F hcn i j ha hb σ
  · cases a with
    | k u => cases b with
      | k v => exact vc_shift_rule_sar_kk V F hcn u v ha hb hp σ
      | r j => exact vc_shift_rule_sar_kr V F hcn u j ha hb σ
    | r i => cases b with
      | k v => exact vc_shift_rule_sar_rk V F hcn i v ha hb σ
      | r j => exact vc_shift_rule_sar_rr V F hcn i j ha hb σ
  · cases a with
    | k u => cases b with
      | k v => exact False.elim hp
      | r j => exact vc_less_rule_lt_kr V F hcn u j ha hb σ
    | r i => cases b with
      | k v => exact vc_less_rule_lt_rk V F hcn i v ha hb σ
      | r j => exact vc_less_rule_lt_rr V F hcn i j ha hb σ
  · cases a with
    | k u => cases b with
      | k v => exact False.elim hp
      | r j => exact vc_less_rule_ltu_kr V F hcn u j ha hb σ
    | r i => cases b with
      | k v => exact vc_less_rule_ltu_rk V F hcn i v ha hb σ
      | r j => exact vc_less_rule_ltu_rr V F hcn i j ha hb σ
  · cases a with
    | k u => cases b with
      | k v => exact False.elim hp
      | r j => exact False.elim hp
    | r i => cases b with
      | k v => exact vc_equal_rule_eq_rk V F hcn i v ha hb σ
      | r j => exact vc_equal_rule_eq_rr V F hcn i j ha hb σ
  · cases a with
    | k u => cases b with
      | k v => exact False.elim hp
      | r j => exact False.elim hp
    | r i => cases b with
      | k v => exact vc_equal_rule_ne_rk V F hcn i v ha hb σ
      | r j => exact vc_equal_rule_ne_rr V F hcn i j ha hb σ
theorem vc_rule1 (o : O1) (V : List Int) (F : Fcs) (hcn : Con V F) (i : Nat) (hi : i < V.length) (σ : Sg) : Vc 9 (nmR (ruleAt1 o)) (bdR (ruleAt1 o)) prR [.str o.nm, .lst [Opd.d (.r i)], .fac F.d] σ (RP V (.one o (.r i)) σ) := by
  cases o
  · exact vc_neg_rule_neg_r V F hcn i hi σ
  · exact vc_not_rule_not_r V F hcn i hi σ
  · exact vc_widen_rule_sx8_r V F hcn i hi σ
  · exact vc_widen_rule_sx16_r V F hcn i hi σ
  · exact vc_widen_rule_zx8_r V F hcn i hi σ
  · exact vc_widen_rule_zx16_r V F hcn i hi σ
theorem vc_better (s : Shp) (V : List Int) (F : Fcs) (hcn : Con V F) (hw : s.wf V.length) (hn : ∀ w g, s ≠ .load w g) (σ : Sg) : Vc 12 nn272.1 nb272.1 prR [.str s.op, .lst s.args, .fac F.d] σ (RP V s σ) := by
  cases s with
  | two o a b =>
    have ha := hw.1
    have hb := hw.2
    cases o
    · cases a with
      | k u => cases b with
        | k v => exact vc_better_add_kk V F hcn u v ha hb σ
        | r j => exact vc_better_add_kr V F hcn u j ha hb σ
      | r i => cases b with
        | k v => exact vc_better_add_rk V F hcn i v ha hb σ
        | r j => exact vc_better_add_rr V F hcn i j ha hb σ
    · cases a with
      | k u => cases b with
        | k v => exact vc_better_sub_kk V F hcn u v ha hb σ
        | r j => exact vc_better_sub_kr V F hcn u j ha hb σ
      | r i => cases b with
        | k v => exact vc_better_sub_rk V F hcn i v ha hb σ
        | r j => exact vc_better_sub_rr V F hcn i j ha hb σ
    · cases a with
      | k u => cases b with
        | k v => exact vc_better_mul_kk V F hcn u v ha hb σ
        | r j => exact vc_better_mul_kr V F hcn u j ha hb σ
      | r i => cases b with
        | k v => exact vc_better_mul_rk V F hcn i v ha hb σ
        | r j => exact vc_better_mul_rr V F hcn i j ha hb σ
    · cases a with
      | k u => cases b with
        | k v => exact vc_better_div_kk V F hcn u v ha hb σ
        | r j => exact vc_better_div_kr V F hcn u j ha hb σ
      | r i => cases b with
        | k v => exact vc_better_div_rk V F hcn i v ha hb σ
        | r j => exact vc_better_div_rr V F hcn i j ha hb σ
    · cases a with
      | k u => cases b with
        | k v => exact vc_better_divu_kk V F hcn u v ha hb σ
        | r j => exact vc_better_divu_kr V F hcn u j ha hb σ
      | r i => cases b with
        | k v => exact vc_better_divu_rk V F hcn i v ha hb σ
        | r j => exact vc_better_divu_rr V F hcn i j ha hb σ
    · cases a with
      | k u => cases b with
        | k v => exact vc_better_rem_kk V F hcn u v ha hb σ
        | r j => exact vc_better_rem_kr V F hcn u j ha hb σ
      | r i => cases b with
        | k v => exact vc_better_rem_rk V F hcn i v ha hb σ
        | r j => exact vc_better_rem_rr V F hcn i j ha hb σ
    · cases a with
      | k u => cases b with
        | k v => exact vc_better_remu_kk V F hcn u v ha hb σ
        | r j => exact vc_better_remu_kr V F hcn u j ha hb σ
      | r i => cases b with
        | k v => exact vc_better_remu_rk V F hcn i v ha hb σ
        | r j => exact vc_better_remu_rr V F hcn i j ha hb σ
    · cases a with
      | k u => cases b with
        | k v => exact vc_better_and_kk V F hcn u v ha hb σ
        | r j => exact vc_better_and_kr V F hcn u j ha hb σ
      | r i => cases b with
        | k v => exact vc_better_and_rk V F hcn i v ha hb σ
        | r j => exact vc_better_and_rr V F hcn i j ha hb σ
    · cases a with
      | k u => cases b with
        | k v => exact vc_better_or_kk V F hcn u v ha hb σ
        | r j => exact vc_better_or_kr V F hcn u j ha hb σ
      | r i => cases b with
        | k v => exact vc_better_or_rk V F hcn i v ha hb σ
        | r j => exact vc_better_or_rr V F hcn i j ha hb σ
    · cases a with
      | k u => cases b with
        | k v => exact vc_better_xor_kk V F hcn u v ha hb σ
        | r j => exact vc_better_xor_kr V F hcn u j ha hb σ
      | r i => cases b with
        | k v => exact vc_better_xor_rk V F hcn i v ha hb σ
        | r j => exact vc_better_xor_rr V F hcn i j ha hb σ
    · cases a with
      | k u => cases b with
        | k v => exact vc_better_shl_kk V F hcn u v ha hb σ
        | r j => exact vc_better_shl_kr V F hcn u j ha hb σ
      | r i => cases b with
        | k v => exact vc_better_shl_rk V F hcn i v ha hb σ
        | r j => exact vc_better_shl_rr V F hcn i j ha hb σ
    · cases a with
      | k u => cases b with
        | k v => exact vc_better_shr_kk V F hcn u v ha hb σ
        | r j => exact vc_better_shr_kr V F hcn u j ha hb σ
      | r i => cases b with
        | k v => exact vc_better_shr_rk V F hcn i v ha hb σ
        | r j => exact vc_better_shr_rr V F hcn i j ha hb σ
    · cases a with
      | k u => cases b with
        | k v => exact vc_better_sar_kk V F hcn u v ha hb σ
        | r j => exact vc_better_sar_kr V F hcn u j ha hb σ
      | r i => cases b with
        | k v => exact vc_better_sar_rk V F hcn i v ha hb σ
        | r j => exact vc_better_sar_rr V F hcn i j ha hb σ
    · cases a with
      | k u => cases b with
        | k v => exact vc_better_lt_kk V F hcn u v ha hb σ
        | r j => exact vc_better_lt_kr V F hcn u j ha hb σ
      | r i => cases b with
        | k v => exact vc_better_lt_rk V F hcn i v ha hb σ
        | r j => exact vc_better_lt_rr V F hcn i j ha hb σ
    · cases a with
      | k u => cases b with
        | k v => exact vc_better_ltu_kk V F hcn u v ha hb σ
        | r j => exact vc_better_ltu_kr V F hcn u j ha hb σ
      | r i => cases b with
        | k v => exact vc_better_ltu_rk V F hcn i v ha hb σ
        | r j => exact vc_better_ltu_rr V F hcn i j ha hb σ
    · cases a with
      | k u => cases b with
        | k v => exact vc_better_eq_kk V F hcn u v ha hb σ
        | r j => exact vc_better_eq_kr V F hcn u j ha hb σ
      | r i => cases b with
        | k v => exact vc_better_eq_rk V F hcn i v ha hb σ
        | r j => exact vc_better_eq_rr V F hcn i j ha hb σ
    · cases a with
      | k u => cases b with
        | k v => exact vc_better_ne_kk V F hcn u v ha hb σ
        | r j => exact vc_better_ne_kr V F hcn u j ha hb σ
      | r i => cases b with
        | k v => exact vc_better_ne_rk V F hcn i v ha hb σ
        | r j => exact vc_better_ne_rr V F hcn i j ha hb σ
  | one o a =>
    cases o
    · cases a with
      | k u => exact vc_better_neg_k V F hcn u hw σ
      | r i => exact vc_better_neg_r V F hcn i hw σ
    · cases a with
      | k u => exact vc_better_not_k V F hcn u hw σ
      | r i => exact vc_better_not_r V F hcn i hw σ
    · cases a with
      | k u => exact vc_better_sx8_k V F hcn u hw σ
      | r i => exact vc_better_sx8_r V F hcn i hw σ
    · cases a with
      | k u => exact vc_better_sx16_k V F hcn u hw σ
      | r i => exact vc_better_sx16_r V F hcn i hw σ
    · cases a with
      | k u => exact vc_better_zx8_k V F hcn u hw σ
      | r i => exact vc_better_zx8_r V F hcn i hw σ
    · cases a with
      | k u => exact vc_better_zx16_k V F hcn u hw σ
      | r i => exact vc_better_zx16_r V F hcn i hw σ
  | load w g => exact (hn _ _ rfl).elim
  | name y off => exact vc_better_name V F y off σ
  | const a => cases a with
    | k u => exact vc_better_const_k V F u σ
    | r i => exact vc_better_const_r V F i σ
  | copy a => cases a with
    | k u => exact vc_better_copy_k V F u hw σ
    | r i => exact vc_better_copy_r V F i σ
end Mine.Internal

end
section
open PySem PySem.W PyProof.Rows PySem.Calls
set_option Elab.async false
set_option tactic.hygienic false
set_option maxRecDepth 100000
set_option linter.all false
set_option genSizeOf false
set_option genInjectivity false
set_option backward.match.sparseCases false
set_option bootstrap.genMatcherCode false
namespace Mine.Internal
noncomputable def fnT : List (Nat × List Str × List (Str × NameKind) × List Stmt) := inlT ++ outT
theorem lkN_app {α : Type} {n : Nat} {e : α} : ∀ {l r : List (Nat × α)}, lkN n l = some e → lkN n (l ++ r) = some e
  | (k, x) :: l, r, h => by
    show (match Nat.beq n k with | true => some x | false => lkN n (l ++ r)) = some e
    have h : (match Nat.beq n k with | true => some x | false => lkN n l) = some e := h
    cases q : Nat.beq n k with
    | true => rw [q] at h; exact h
    | false => rw [q] at h; exact lkN_app h
theorem lkN_mem {α : Type} {n : Nat} {e : α} : ∀ {l : List (Nat × α)}, lkN n l = some e → ∃ k, (k, e) ∈ l
  | (k, x) :: l, h => by
    have h : (match Nat.beq n k with | true => some x | false => lkN n l) = some e := h
    cases q : Nat.beq n k with
    | true => rw [q] at h; cases h; exact ⟨k, .head _⟩
    | false => rw [q] at h; obtain ⟨j, hj⟩ := lkN_mem h; exact ⟨j, .tail _ hj⟩
noncomputable def allLoc (names : List (Str × NameKind)) : List Str → Bool
  | [] => true
  | x :: r => isLocalK (lk x names) && allLoc names r
theorem loc_all {names : List (Str × NameKind)} : ∀ {xs : List Str} {ds : List D}, allLoc names xs = true → locOf names (pz xs ds) = pz xs ds ∧ celOf names (pz xs ds) = []
  | [], _, _ => ⟨rfl, rfl⟩
  | _ :: _, [], _ => ⟨rfl, rfl⟩
  | x :: xs, d :: ds, h => by
    obtain ⟨h1, h2⟩ := Bool.and_eq_true_iff.mp h
    obtain ⟨a, b⟩ := loc_all (ds := ds) h2
    constructor
    · show (match isLocalK (lk x names) with | true => (x, d) :: locOf names (pz xs ds) | false => locOf names (pz xs ds)) = _
      rw [h1, a]; rfl
    · show (match !isLocalK (lk x names) with | true => (x, d) :: celOf names (pz xs ds) | false => celOf names (pz xs ds)) = _
      rw [h1]; exact b

structure Pre extends Wd where
  K : Frag
  Base : Heap → Prop
  keeps : ∀ {h h' : Heap}, Base h → h.StaysIn h' → Base h'
  hK : ∀ {h : Heap}, Base h → K.In h
  hlim : ∀ {h : Heap}, Base h → h.NoLimit
  gl : ∀ {h : Heap}, Base h → ∀ {x : Str} {d : D}, gfind x GL = some d → GlA toWd h x d
  big : ∀ {h : Heap}, Base h → ∃ a o, h.get? a = some o ∧ Nat.ble sysModules a = true
  fs : Addr
  getm : ∀ {A : Around} {s : Shared} {hid : List Addr} {l : List (Int × D)} {v : Value} {name : Str} {pl : Sem Bool} {Q : Value × List Value → Shared → Prop}, Base (hideAll s.heap hid) → Rep toWd (hideAll s.heap hid) v (.fac l) →
    seqb name sShape = true → Q (.ref fs, [v]) s → wpAny (model prog w) A (getMethod v name pl) Q NoE s
  fsfn : ∀ {h : Heap}, Base h → ∃ o fd, h.get? fs = some o ∧ o.data = .func fd
  shp : ∀ {A : Around} {s : Shared} {hid : List Addr} {l : List (Int × D)} {d : D} {K : D → Prop} {vx vd : Value}, AOk A 2 → Base (hideAll s.heap hid) → Live hid s.heap →
    Rep toWd (hideAll s.heap hid) vx (.fac l) → Rep toWd (hideAll s.heap hid) vd d → shapeAt l d K → wpAny (model prog w) A (call (.ref fs) [vx, vd]) (Res toWd hid K s) NoE s
  fn : ∀ a xs names body, lkN a fnT = some (xs, names, body) → FnOk K a xs names body
inductive CallOk (B : Pre) (k : Nat) (a : Addr) (ds : List D) (σ : Sg) (Q : D → Sg → Prop) : Prop
  | mk : (∀ {A : Around} {s : Shared} {hid : List Addr} {vs : List Value}, AOk A k → B.Base (hideAll s.heap hid) → B.aw ∈ hid →
    Live hid s.heap → RepL B.toWd (hideAll s.heap hid) vs ds → WellAt B.toWd hid s.heap σ → wpAny (model B.prog B.w) A (call (.ref a) vs) (PC B.toWd hid Q s) NoE s) → CallOk B k a ds σ Q
noncomputable def CallsOk (B : Pre) (k : Nat) : Prop := ∀ {a : Addr} {ds : List D} {σ : Sg} {Q : D → Sg → Prop}, ctI k a ds σ Q → CallOk B k a ds σ Q
noncomputable def mkCfg (B : Pre) (k : Nat) (hk : 2 ≤ k) (c : CallsOk B k) : Cfg :=
  { toWd := B.toWd, g := gx k, Base := B.Base, keeps := B.keeps, gl := B.gl, l2 := hk, big := B.big, fs := B.fs, getm := B.getm, fsfn := B.fsfn, shp := B.shp, calls := fun h => match c h with | .mk q => q }
theorem CallOk.mono {B : Pre} {k : Nat} {a : Addr} {ds : List D} {σ : Sg} {Q Q' : D → Sg → Prop} (h : CallOk B k a ds σ Q) (q : ∀ d σ', Q d σ' → Q' d σ') : CallOk B k a ds σ Q' := by
  obtain ⟨h⟩ := h
  exact .mk fun hA b ha l r w => wpAny_mono (h hA b ha l r w) (fun _ _ p => match p with | .mk d σ a b c e => .mk d σ (q d σ a) b c e) fun _ _ x => x
theorem of_vt {B : Pre} {n k : Nat} {a : Addr} {xs : List Str} {names : List (Str × NameKind)} {body : List Stmt} {ds : List D} {σ : Sg} {Q : D → Sg → Prop} (hn : 2 ≤ n) (hk : n < k) (c : CallsOk B n) (hf : lkN a fnT = some (xs, names, body)) (hl : ds.length = xs.length)
    (vc : Vt n names body xs ds σ Q) : CallOk B k a ds σ Q := .mk fun hA b ha l r w =>
  call_fn (C := mkCfg B n hn c) (K := B.K) B.hK B.hlim (B.fn _ _ _ _ hf) (hA.mono hk) b ha l r w hl vc
theorem of_vc {B : Pre} {n k : Nat} {a : Addr} {xs : List Str} {names : List (Str × NameKind)} {body : List Stmt} {ds : List D} {σ : Sg} {Q : D → Sg → Prop} (hn : 2 ≤ n) (hk : n < k) (c : CallsOk B n) (hf : lkN a fnT = some (xs, names, body)) (hl : ds.length = xs.length) (hloc : allLoc names xs = true)
    (vc : Vc n names body xs ds σ Q) : CallOk B k a ds σ Q := by
  obtain ⟨e1, e2⟩ := loc_all (ds := ds) hloc
  refine of_vt hn hk c hf hl ?_
  unfold Vt fcx
  rw [e1, e2]
  exact vc
theorem inl_loc : (inlT.all fun e => allLoc e.2.2.1 e.2.1) = true := by rfl
theorem inl_at {a : Nat} {xs : List Str} {names : List (Str × NameKind)} {body : List Stmt} (h : lkN a inlT = some (xs, names, body)) : allLoc names xs = true := by
  obtain ⟨k, hm⟩ := lkN_mem h
  exact List.all_eq_true.mp inl_loc _ hm
theorem lt_of_blt {n k : Nat} (h : Nat.blt n k = true) : n < k := Nat.le_of_ble_eq_true h

section
variable {B : Pre} {k : Nat} {σ : Sg} {Q : D → Sg → Prop}
theorem c_rule {o : O2} {a b : Opd} {V : List Int} {F : Fcs} (ih : ∀ j, j < k → CallsOk B j) (hk : Nat.blt 9 k = true) (hcn : Con V F) (ha : a.wf V.length) (hb : b.wf V.length) (hp : pre2 o a b) (h : ∀ d, RP V (.two o a b) σ d σ → Q d σ) :
    CallOk B k (ruleAt o) [.str o.nm, .lst [a.d, b.d], .fac F.d] σ Q := by
  have hn := lt_of_blt hk
  refine CallOk.mono (of_vc (a := ruleAt o) (n := 9) (xs := prR) (names := nmR (ruleAt o)) (body := bdR (ruleAt o)) (by decide) hn (ih 9 hn) (by cases o <;> rfl) rfl (by cases o <;> rfl) (vc_rule o V F hcn a b ha hb hp σ)) fun d σ' q => ?_
  obtain ⟨_, rfl⟩ := BtP.of q
  exact h d q
theorem c_rule1 {o : O1} {i : Nat} {V : List Int} {F : Fcs} (ih : ∀ j, j < k → CallsOk B j) (hk : Nat.blt 9 k = true) (hcn : Con V F) (hi : i < V.length) (h : ∀ d, RP V (.one o (.r i)) σ d σ → Q d σ) :
    CallOk B k (ruleAt1 o) [.str o.nm, .lst [Opd.d (.r i)], .fac F.d] σ Q := by
  have hn := lt_of_blt hk
  refine CallOk.mono (of_vc (a := ruleAt1 o) (n := 9) (xs := prR) (names := nmR (ruleAt1 o)) (body := bdR (ruleAt1 o)) (by decide) hn (ih 9 hn) (by cases o <;> rfl) rfl (by cases o <;> rfl) (vc_rule1 o V F hcn i hi σ)) fun d σ' q => ?_
  obtain ⟨_, rfl⟩ := BtP.of q
  exact h d q
end
end Mine.Internal

end
section
open PySem PySem.W PyProof.Rows PySem.Calls
set_option Elab.async false
set_option tactic.hygienic false
set_option maxRecDepth 100000
set_option linter.all false
set_option genSizeOf false
set_option genInjectivity false
set_option backward.match.sparseCases false
set_option bootstrap.genMatcherCode false
namespace Mine.Internal
theorem sem_W0 {V : List Int} {s : Shp} (hV : AllV V) (hw : s.wf V.length) : ∀ z, s.sem V = some z → W32 z := fun _ h => sem_W hV hw h
theorem nd_sem {o : O2} {x y : Int} (h : isDv o = false) : ∃ z, sem2 o x y = some z := by cases o <;> first | exact ⟨_, rfl⟩ | (cases h; done)
section
variable {B : Pre} {k : Nat} {σ : Sg} {Q : D → Sg → Prop}
theorem c_span {V : List Int} {F : Fcs} {a : Opd} (ih : ∀ j, j < k → CallsOk B j) (hk : Nat.blt 7 k = true) (hcn : Con V F) (ha : a.wf V.length)
    (h : ∀ lo hi, lo ≤ sg (a.v V) → sg (a.v V) ≤ hi → (∀ v, a = .k v → lo = sg v ∧ hi = sg v) → (∀ i o x y, a = .r i → look i F = some (.two o x y) → isCmp o = true → lo = 0 ∧ hi = 1) → Q (.tup [.int lo, .int hi]) σ) : CallOk B k 116 [a.d, .fac F.d] σ Q := by
  have hn := lt_of_blt hk
  have v : Vc 7 nn116.1 nb116.1 [⟨#[111, 112, 101, 114, 97, 110, 100]⟩, ⟨#[102, 97, 99, 116, 115]⟩] [a.d, .fac F.d] σ (SpP V F a σ) := by
    cases a with
    | k v => exact vc_span_k V F hcn v ha σ
    | r i => exact vc_span_r V F hcn i ha σ
  refine CallOk.mono (of_vc (a := 116) (n := 7) (by decide) hn (ih 7 hn) (by rfl) rfl (by rfl) v) fun d σ' q => ?_
  cases q with
  | mk a b c d => exact h _ _ a b c d
theorem c_inner {V : List Int} {F : Fcs} {i : Nat} {bits : Int} (ih : ∀ j, j < k → CallsOk B j) (hk : Nat.blt 7 k = true) (hcn : Con V F) (hi : i < V.length) (hb : bits = 8 ∨ bits = 16) (h0 : Q .none σ)
    (h1 : ∀ u, Opd.wf i (.k u) → 3 ≤ i → u % 2 ^ bits.toNat = (V.getD i 0) % 2 ^ bits.toNat → Q (Opd.d (.k u)) σ)
    (h2 : ∀ x, x < i → 3 ≤ i → (V.getD x 0) % 2 ^ bits.toNat = (V.getD i 0) % 2 ^ bits.toNat → Q (Opd.d (.r x)) σ) : CallOk B k 256 [Opd.d (.r i), .int bits, .fac F.d] σ Q := by
  have hn := lt_of_blt hk
  have v : Vc 7 nn256.1 nb256.1 [⟨#[111, 112, 101, 114, 97, 110, 100]⟩, ⟨#[98, 105, 116, 115]⟩, ⟨#[102, 97, 99, 116, 115]⟩] [Opd.d (.r i), .int bits, .fac F.d] σ (InP V i bits σ) := by
    rcases hb with rfl | rfl
    · exact vc_inner_8 V F hcn i hi σ
    · exact vc_inner_16 V F hcn i hi σ
  refine CallOk.mono (of_vc (a := 256) (n := 7) (by decide) hn (ih 7 hn) (by rfl) rfl (by rfl) v) fun d σ' q => ?_
  cases q with
  | none => exact h0
  | @some x a b c =>
    cases x with
    | k u => exact h1 u a b c
    | r j => exact h2 j a b c
theorem c_lone {o : O1} {x : Int} (ih : ∀ j, j < k → CallsOk B j) (hk : Nat.blt 4 k = true) (hx : W32 x) (h : Q (semD (some (sem1 o x))) σ) : CallOk B k 414 [.str o.nm, .int x] σ Q := by
  have hn := lt_of_blt hk
  have v : Vc 4 nn414.1 nb414.1 [⟨#[111, 112]⟩, ⟨#[118, 97, 108, 117, 101]⟩] [.str o.nm, .int x] σ (LP (some (sem1 o x)) σ) := by
    cases o
    · exact vc_one_neg x hx σ
    · exact vc_one_not x hx σ
    · exact vc_one_sx8 x hx σ
    · exact vc_one_sx16 x hx σ
    · exact vc_one_zx8 x hx σ
    · exact vc_one_zx16 x hx σ
  refine CallOk.mono (of_vc (a := 414) (n := 4) (by decide) hn (ih 4 hn) (by rfl) rfl (by rfl) v) fun d σ' q => ?_
  cases q with
  | mk e => subst e; exact h
theorem c_lsh {o : O2} {x y : Int} (ih : ∀ j, j < k → CallsOk B j) (hk : Nat.blt 4 k = true) (ho : o = .div ∨ o = .divu ∨ o = .rem ∨ o = .remu) (hx : W32 x) (hy : W32 y) (h : Q (semD (sem2 o x y)) σ) : CallOk B k 400 [.str o.nm, .int x, .int y] σ Q := by
  have hn := lt_of_blt hk
  have v : Vc 4 nn400.1 nb400.1 [⟨#[111, 112]⟩, ⟨#[111, 110, 101]⟩, ⟨#[111, 116, 104, 101, 114]⟩] [.str o.nm, .int x, .int y] σ (LP (sem2 o x y) σ) := by
    rcases ho with rfl | rfl | rfl | rfl
    · exact vc_shared_div x y hx hy σ
    · exact vc_shared_divu x y hx hy σ
    · exact vc_shared_rem x y hx hy σ
    · exact vc_shared_remu x y hx hy σ
  refine CallOk.mono (of_vc (a := 400) (n := 4) (by decide) hn (ih 4 hn) (by rfl) rfl (by rfl) v) fun d σ' q => ?_
  cases q with
  | mk e => subst e; exact h
theorem c_ltwo {o : O2} {x y : Int} (ih : ∀ j, j < k → CallsOk B j) (hk : Nat.blt 5 k = true) (hx : W32 x) (hy : W32 y) (h : Q (semD (sem2 o x y)) σ) : CallOk B k 407 [.str o.nm, .int x, .int y] σ Q := by
  have hn := lt_of_blt hk
  have v : Vc 5 nn407.1 nb407.1 [⟨#[111, 112]⟩, ⟨#[111, 110, 101]⟩, ⟨#[111, 116, 104, 101, 114]⟩] [.str o.nm, .int x, .int y] σ (LP (sem2 o x y) σ) := by
    cases o
    · exact vc_two_add x y hx hy σ
    · exact vc_two_sub x y hx hy σ
    · exact vc_two_mul x y hx hy σ
    · exact vc_two_div x y hx hy σ
    · exact vc_two_divu x y hx hy σ
    · exact vc_two_rem x y hx hy σ
    · exact vc_two_remu x y hx hy σ
    · exact vc_two_and x y hx hy σ
    · exact vc_two_or x y hx hy σ
    · exact vc_two_xor x y hx hy σ
    · exact vc_two_shl x y hx hy σ
    · exact vc_two_shr x y hx hy σ
    · exact vc_two_sar x y hx hy σ
    · exact vc_two_lt x y hx hy σ
    · exact vc_two_ltu x y hx hy σ
    · exact vc_two_eq x y hx hy σ
    · exact vc_two_ne x y hx hy σ
  refine CallOk.mono (of_vc (a := 407) (n := 5) (by decide) hn (ih 5 hn) (by rfl) rfl (by rfl) v) fun d σ' q => ?_
  cases q with
  | mk e => subst e; exact h
theorem c_ldraw {size : Int} (ih : ∀ j, j < k → CallsOk B j) (hk : Nat.blt 3 k = true) (hi : InvS σ) (hs : 1 ≤ size ∧ size ≤ 65536) (h : ∀ (n : Nat) σ', n < size.toNat → InvS σ' → Q (.int (Int.ofNat n)) σ') : CallOk B k 372 [.wel, .int size] σ Q := by
  have hn := lt_of_blt hk
  have v : Vc 3 nn372.1 nb372.1 [⟨#[119, 101, 108, 108]⟩, ⟨#[115, 105, 122, 101]⟩] [.wel, .int size] σ (DrP size) := by
    obtain ⟨n, e⟩ := hi.sp
    obtain ⟨cells, sp, x⟩ := σ
    have e : sp = Int.ofNat n := e
    subst e
    exact vc_draw cells n x size hi hs
  refine CallOk.mono (of_vc (a := 372) (n := 3) (by decide) hn (ih 3 hn) (by rfl) rfl (by rfl) v) fun d σ' q => ?_
  cases q with
  | @mk v _ a b c =>
    obtain ⟨n, rfl⟩ := Int.eq_ofNat_of_zero_le a
    exact h n _ (by (first | lia | omega)) c
theorem c_lcell (ih : ∀ j, j < k → CallsOk B j) (hk : Nat.blt 4 k = true) (hi : InvS σ) (h : ∀ v σ', W32 v → InvS σ' → Q (.int v) σ') : CallOk B k 379 [.wel] σ Q := by
  have hn := lt_of_blt hk
  refine CallOk.mono (of_vc (a := 379) (n := 4) (by decide) hn (ih 4 hn) (by rfl) rfl (by rfl) (vc_cell σ hi)) fun d σ' q => ?_
  cases q with
  | mk a b => exact h _ _ a b
theorem c_lopd {m : Nat} (ih : ∀ j, j < k → CallsOk B j) (hk : Nat.blt 5 k = true) (hi : InvS σ) (hm : m ≤ 60000) (h : ∀ (a : Opd) σ', a.wf m → InvS σ' → Q a.d σ') : CallOk B k 386 [.wel, .int (Int.ofNat m)] σ Q := by
  have hn := lt_of_blt hk
  refine CallOk.mono (of_vc (a := 386) (n := 5) (by decide) hn (ih 5 hn) (by rfl) rfl (by rfl) (vc_opd σ hi m hm)) fun d σ' q => ?_
  cases q with
  | mk e a b => subst e; exact h _ _ a b
theorem c_lload (ih : ∀ j, j < k → CallsOk B j) (hk : Nat.blt 5 k = true) (hi : InvS σ) (h : ∀ w s v σ', (w = 1 ∨ w = 2 ∨ w = 4) → W32 v → loadOk w s v → InvS σ' → Q (.lst [Shp.d (.load w s), .int v]) σ') : CallOk B k 426 [.wel] σ Q := by
  have hn := lt_of_blt hk
  refine CallOk.mono (of_vc (a := 426) (n := 5) (by decide) hn (ih 5 hn) (by rfl) rfl (by rfl) (vc_load σ hi)) fun d σ' q => ?_
  cases q with
  | mk a b c e => exact h _ _ _ _ a b c e
theorem c_lshape {V : List Int} (ih : ∀ j, j < k → CallsOk B j) (hk : Nat.blt 7 k = true) (hi : InvS σ) (hV : AllV V) (hl : 3 ≤ V.length ∧ V.length ≤ 9) (h : ∀ s v σ', Sok V s v → InvS σ' → Q (.lst [s.d, .int v]) σ') : CallOk B k 431 [.wel, .int (Int.ofNat V.length), .lst (V.map D.int)] σ Q := by
  have hn := lt_of_blt hk
  refine CallOk.mono (of_vc (a := 431) (n := 7) (by decide) hn (ih 7 hn) (by rfl) rfl (by rfl) (vc_shape V hV hl σ hi)) fun d σ' q => ?_
  cases q with
  | mk e a b => subst e; exact h _ _ _ a b
theorem c_lspans {V : List Int} {F : Fcs} (ih : ∀ j, j < k → CallsOk B j) (hk : Nat.blt 8 k = true) (hcn : Con V F) (hV : AllV V) (h : Q (.bool true) σ) : CallOk B k 438 [.fac F.d, .lst (V.map D.int)] σ Q := by
  have hn := lt_of_blt hk
  refine CallOk.mono (of_vc (a := 438) (n := 8) (by decide) hn (ih 8 hn) (by rfl) rfl (by rfl) (vc_spans V F hcn hV σ)) fun d σ' q => ?_
  cases q with
  | mk => exact h
theorem c_rule0 (V : List Int) {F : Fcs} {o : O2} {a : Opd} (ih : ∀ j, j < k → CallsOk B j) (hk : Nat.blt 9 k = true) (ho : o = .div ∨ o = .divu ∨ o = .rem ∨ o = .remu) (h : Q .none σ) : CallOk B k (ruleAt o) [.str o.nm, .lst [a.d, Opd.d (.k 0)], .fac F.d] σ Q := by
  have hn := lt_of_blt hk
  have v : Vc 9 (nmR (ruleAt o)) (bdR (ruleAt o)) prR [.str o.nm, .lst [a.d, Opd.d (.k 0)], .fac F.d] σ (NoP σ) := by
    rcases ho with rfl | rfl | rfl | rfl
    · exact vc_rule0_div V F a σ
    · exact vc_rule0_divu V F a σ
    · exact vc_rule0_rem V F a σ
    · exact vc_rule0_remu V F a σ
  refine CallOk.mono (of_vc (a := ruleAt o) (n := 9) (xs := prR) (names := nmR (ruleAt o)) (body := bdR (ruleAt o)) (by decide) hn (ih 9 hn) (by cases o <;> rfl) rfl (by cases o <;> rfl) v) fun d σ' q => ?_
  cases q with
  | mk => exact h
theorem c_better {V : List Int} {F : Fcs} {s : Shp} (ih : ∀ j, j < k → CallsOk B j) (hk : Nat.blt 12 k = true) (hcn : Con V F) (hw : s.wf V.length) (hnl : ∀ w g, s ≠ .load w g) (h : ∀ d, BtP V s d → Q d σ) : CallOk B k 272 [.str s.op, .lst s.args, .fac F.d] σ Q := by
  have hn := lt_of_blt hk
  refine CallOk.mono (of_vc (a := 272) (n := 12) (by decide) hn (ih 12 hn) (by rfl) rfl (by rfl) (vc_better s V F hcn hw hnl σ)) fun d σ' q => ?_
  obtain ⟨q', rfl⟩ := BtP.of q
  exact h d q'
theorem c_better0 {V : List Int} {F : Fcs} {o : O2} {a : Opd} (ih : ∀ j, j < k → CallsOk B j) (hk : Nat.blt 12 k = true) (hcn : Con V F) (ha : a.wf V.length) (ho : o = .div ∨ o = .divu ∨ o = .rem ∨ o = .remu) (h : Q .none σ) : CallOk B k 272 [.str o.nm, .lst [a.d, Opd.d (.k 0)], .fac F.d] σ Q := by
  have hn := lt_of_blt hk
  have v : Vc 12 nn272.1 nb272.1 prR [.str o.nm, .lst [a.d, Opd.d (.k 0)], .fac F.d] σ (NoP σ) := by
    cases a with
    | k u =>
      rcases ho with rfl | rfl | rfl | rfl
      · exact vc_better0_div_k V F hcn u ha σ
      · exact vc_better0_divu_k V F hcn u ha σ
      · exact vc_better0_rem_k V F hcn u ha σ
      · exact vc_better0_remu_k V F hcn u ha σ
    | r u =>
      rcases ho with rfl | rfl | rfl | rfl
      · exact vc_better0_div_r V F hcn u ha σ
      · exact vc_better0_divu_r V F hcn u ha σ
      · exact vc_better0_rem_r V F hcn u ha σ
      · exact vc_better0_remu_r V F hcn u ha σ
  refine CallOk.mono (of_vc (a := 272) (n := 12) (by decide) hn (ih 12 hn) (by rfl) rfl (by rfl) v) fun d σ' q => ?_
  cases q with
  | mk => exact h
theorem c_lright {V : List Int} {F : Fcs} {s : Shp} (ih : ∀ j, j < k → CallsOk B j) (hk : Nat.blt 13 k = true) (hcn : Con V F) (hV : AllV V) (hw : s.wf V.length) (ho : isOp s = true) (h : Q (.bool true) σ) : CallOk B k 445 [.fac F.d, s.d, .lst (V.map D.int)] σ Q := by
  have hn := lt_of_blt hk
  have v : Vc 13 nn445.1 nb445.1 [⟨#[102, 97, 99, 116, 115]⟩, ⟨#[115, 104, 97, 112, 101]⟩, ⟨#[118, 97, 108, 117, 101, 115]⟩] [.fac F.d, s.d, .lst (V.map D.int)] σ (TrP σ) := by
    cases s with
    | one o a => exact vc_right_one_some V F hcn hV o a hw _ rfl σ
    | two o a b =>
      cases hd : isDv o with
      | false =>
        obtain ⟨z, hz⟩ := nd_sem (x := a.v V) (y := b.v V) hd
        exact vc_right_nd_some V F hcn hV o a b hd hw z hz σ
      | true =>
        cases hz : (Shp.two o a b).sem V with
        | some z =>
          cases b with
          | r j => exact vc_right_dvr_some V F hcn hV o a j hd hw z hz σ
          | k v =>
            refine vc_right_dvk_some V F hcn hV o a v hd (fun e => ?_) hw z hz σ
            cases e
            have hz : sem2 o (a.v V) 0 = some z := hz
            rcases dv_or hd with rfl | rfl | rfl | rfl
            · simp [sem2, sg] at hz
            · simp [sem2] at hz
            · simp [sem2, sg] at hz
            · simp [sem2] at hz
        | none =>
          cases b with
          | r j => exact vc_right_dvr_none V F hcn hV o a j hd hw hz σ
          | k v =>
            by_cases e : v = 0
            · subst e; exact vc_right_d0_none V F hcn hV o a hd hw hz σ
            · exact vc_right_dvk_none V F hcn hV o a v hd (fun q => e (by cases q; rfl)) hw hz σ
    | load w g => cases ho
    | name y off => cases ho
    | const a => cases ho
    | copy a => cases ho
  refine CallOk.mono (of_vc (a := 445) (n := 13) (by decide) hn (ih 13 hn) (by rfl) rfl (by rfl) v) fun d σ' q => ?_
  cases q with
  | mk => exact h
theorem c_ltold {V : List Int} {s : Shp} (ih : ∀ j, j < k → CallsOk B j) (hk : Nat.blt 6 k = true) (hV : AllV V) (hw : s.wf V.length) (hnl : ∀ w g, s ≠ .load w g) (h0 : s.sem V = none → Q (.lst []) σ) (h1 : ∀ z, s.sem V = some z → W32 z → Q (.lst [.int z]) σ) : CallOk B k 419 [s.d, .lst (V.map D.int)] σ Q := by
  have hn := lt_of_blt hk
  have v : Vt 6 nn419.1 nb419.1 [⟨#[115, 104, 97, 112, 101]⟩, ⟨#[118, 97, 108, 117, 101, 115]⟩] [s.d, .lst (V.map D.int)] σ (TdP V s σ) := by
    cases s with
    | two o a b =>
      cases a with
      | k u =>
        cases b with
        | k v => exact vc_told_two_kk V hV o u v hw.1 hw.2 σ
        | r j => exact vc_told_two_kr V hV o u j hw.1 hw.2 σ
      | r i =>
        cases b with
        | k v => exact vc_told_two_rk V hV o i v hw.1 hw.2 σ
        | r j => exact vc_told_two_rr V hV o i j hw.1 hw.2 σ
    | one o a =>
      cases a with
      | k u => exact vc_told_one_k V hV o u hw σ
      | r i => exact vc_told_one_r V hV o i hw σ
    | load w g => exact absurd rfl (hnl w g)
    | name y off =>
      cases y with
      | true => exact vc_told_name_true V hV off σ
      | false => exact vc_told_name_false V hV off σ
    | const a =>
      cases a with
      | k u => exact vc_told_const_k V hV u hw σ
      | r i => exact vc_told_const_r V hV i hw σ
    | copy a =>
      cases a with
      | k u => exact vc_told_copy_k V hV u hw σ
      | r i => exact vc_told_copy_r V hV i hw σ
  refine CallOk.mono (of_vt (a := 419) (n := 6) (by decide) hn (ih 6 hn) (by rfl) rfl v) fun d σ' q => ?_
  cases q with
  | mk e =>
    subst e
    cases hz : s.sem V with
    | none => exact h0 hz
    | some z => exact h1 z hz (sem_W hV hw hz)
end
theorem c_all {B : Pre} {k : Nat} {a : Addr} {ds : List D} {σ : Sg} {Q : D → Sg → Prop} (ih : ∀ j, j < k → CallsOk B j) (h : CT k a ds σ Q) : CallOk B k a ds σ Q := by
  cases h with
  | span a b c d => exact c_span ih a b c d
  | inner a b c d e f g => exact c_inner ih a b c d e f g
  | rule a b c d e f => exact c_rule ih a b c d e f
  | rule1 a b c d => exact c_rule1 ih a b c d
  | lone a b c => exact c_lone ih a b c
  | lsh a b c d e => exact c_lsh ih a b c d e
  | ltwo a b c d => exact c_ltwo ih a b c d
  | ldraw a b c d => exact c_ldraw ih a b c d
  | lcell a b c => exact c_lcell ih a b c
  | lopd a b c d => exact c_lopd ih a b c d
  | ltold a b c d e f => exact c_ltold ih a b c d e f
  | lload a b c => exact c_lload ih a b c
  | lshape a b c d e => exact c_lshape ih a b c d e
  | @rule0 V _ _ _ _ _ a b c d e => exact c_rule0 V ih a d e
  | better a b c d e => exact c_better ih a b c d e
  | better0 a b c d e => exact c_better0 ih a b c d e
  | lright a b c d e f => exact c_lright ih a b c d e f
  | lspans a b c d => exact c_lspans ih a b c d
inductive CI (k : Nat) (a : Addr) (ds : List D) (σ : Sg) (Q : D → Sg → Prop) : Prop
  | inl {xs : List Str} {names : List (Str × NameKind)} {body : List Stmt} : Nat.blt 1 k = true → lkN a inlT = some (xs, names, body) → ds.length = xs.length → Vc k names body xs ds σ Q → CI k a ds σ Q
  | out : CT (k + 1) a ds σ Q → CI k a ds σ Q
theorem CI.of {k : Nat} {a : Addr} {ds : List D} {σ : Sg} {Q : D → Sg → Prop} (h : ctI (k + 1) a ds σ Q) : CI k a ds σ Q := by
  unfold ctI at h
  cases q : Nat.blt 1 k with
  | false => rw [q] at h; exact h.elim
  | true =>
    rw [q] at h
    dsimp only at h
    cases e : lkN a inlT with
    | none => rw [e] at h; exact .out h
    | some t =>
      obtain ⟨xs, names, body⟩ := t
      rw [e] at h
      obtain ⟨hl, h⟩ := onlyT_inv h
      exact .inl q e (Nat.eq_of_beq_eq_true hl) h
theorem calls_all (B : Pre) (k : Nat) : CallsOk B k := by
  induction k using Nat.strongRecOn with
  | ind k ih =>
    cases k with
    | zero => exact fun h => h.elim
    | succ k =>
      intro a ds σ Q h
      cases CI.of h with
      | out h => exact c_all ih h
      | inl hk hf hl v => exact of_vc (lt_of_blt hk) (Nat.lt_succ_self k) (ih k (Nat.lt_succ_self k)) (lkN_app hf) hl (inl_at hf) v
end Mine.Internal

end
section
open PySem PySem.W PyProof.Rows PySem.Calls
set_option Elab.async false
set_option tactic.hygienic false
set_option maxRecDepth 100000
set_option linter.all false
set_option genSizeOf false
set_option genInjectivity false
set_option backward.match.sparseCases false
set_option bootstrap.genMatcherCode false
namespace Mine.Internal
section
variable {X : Wd} {h : Heap} {K : Frag}
noncomputable def fnAt (K : Frag) (a : Addr) : Bool := match K.lookup a with
  | some ⟨_, _, .func _, _⟩ => true
  | _ => false
inductive FnAt (K : Frag) (a : Addr) : Prop
  | mk {o : Obj} {fd : FuncData} : K.lookup a = some o → o.data = .func fd → FnAt K a
set_option tactic.hygienic true in
theorem fnAt_inv {a : Addr} (e : fnAt K a = true) : FnAt K a := by
  unfold fnAt at e
  split at e
  · rename_i c d fd sl q; exact .mk q rfl
  · cases e
theorem rep_fn {a : Addr} (x : K.In h) (e : fnAt K a = true) : Rep X h (.ref a) (.fn a) := match fnAt_inv e with | .mk q r => .fn (x _ _ q) r
noncomputable def DctK (X : Wd) (h : Heap) : List DictEntry → List (Str × D) → Prop
  | [], [] => True
  | e :: es, (x, d) :: ds => ((∃ t, e.key = .str x t) ∧ lk x ds = none ∧ Rep X h e.val d) ∧ DctK X h es ds
  | _, _ => False
theorem isStrOf_str {x y : Str} {t : Tok} : Value.isStrOf x (.str y t) = decide (y = x) := by
  show (y == x) = decide (y = x)
  rfl
theorem dctK_some : ∀ {es : List DictEntry} {ds : List (Str × D)}, DctK X h es ds → ∀ {x : Str} {d : D}, lk x ds = some d → ∃ v, findBy Value.isStrOf es.toArray x = some v ∧ Rep X h v d
  | [], [], _, _, _, hl => nomatch hl
  | [], _ :: _, q, _, _, _ => q.elim
  | _ :: _, [], q, _, _, _ => q.elim
  | e :: es, (y, d') :: ds, ⟨⟨⟨t, hk⟩, hn, hr⟩, hs⟩, x, d, hl => by
    unfold findBy
    rw [List.find?_toArray, List.find?_cons, hk, isStrOf_str]
    by_cases q : y = x
    · subst q
      rw [lk_cons_self] at hl
      cases hl
      rw [decide_eq_true rfl]
      exact ⟨_, rfl, hr⟩
    · rw [lk_cons_ne (Ne.symm q)] at hl
      obtain ⟨v, a, b⟩ := dctK_some hs hl
      unfold findBy at a
      rw [List.find?_toArray] at a
      rw [decide_eq_false q]
      exact ⟨v, a, b⟩
theorem dctK_none : ∀ {es : List DictEntry} {ds : List (Str × D)}, DctK X h es ds → ∀ {x : Str}, lk x ds = none → findBy Value.isStrOf es.toArray x = none
  | [], [], _, _, _ => rfl
  | [], _ :: _, q, _, _ => q.elim
  | _ :: _, [], q, _, _ => q.elim
  | e :: es, (y, d') :: ds, ⟨⟨⟨t, hk⟩, hn, hr⟩, hs⟩, x, hl => by
    unfold findBy
    rw [List.find?_toArray, List.find?_cons, hk, isStrOf_str]
    by_cases q : y = x
    · subst q
      rw [lk_cons_self] at hl
      cases hl
    · rw [lk_cons_ne (Ne.symm q)] at hl
      have a := dctK_none hs hl
      unfold findBy at a
      rw [List.find?_toArray] at a
      rw [decide_eq_false q]
      exact a
theorem dctK_mem : ∀ {es : List DictEntry} {ds : List (Str × D)}, DctK X h es ds → ∀ {x : Str} {d : D}, (x, d) ∈ ds → lk x ds = some d
  | [], [], _, _, _, hm => nomatch hm
  | [], _ :: _, q, _, _, _ => q.elim
  | _ :: _, [], q, _, _, _ => q.elim
  | _ :: _, (y, d') :: ds, ⟨⟨_, hn, _⟩, hs⟩, x, d, hm => by
    cases hm with
    | head => exact lk_cons_self
    | tail _ hm =>
      have := dctK_mem hs hm
      by_cases q : x = y
      · subst q; rw [hn] at this; cases this
      · rw [lk_cons_ne q]; exact this
theorem RpS_of {g : Str → Value} : ∀ {l : List (Str × D)}, (∀ x d, (x, d) ∈ l → Rep X h (g x) d) → RpS X h l g
  | [], _ => trivial
  | (_, _) :: _, q => ⟨q _ _ (.head _), RpS_of fun x d m => q x d (.tail _ m)⟩
theorem rep_dct {a : Addr} {es : List DictEntry} {n : Nat} {ds : List (Str × D)} (x : K.In h) (hl : K.lookup a = some ⟨.type "dict", none, .dict es.toArray n, #[]⟩) (hk : KeysLit X.w.params es) (hd : DctK X h es ds) (ha : (a == sysModules) = false) :
    Rep X h (.ref a) (.dct ds) := by
  refine DcA.dct (f := fun k => findBy Value.isStrOf es.toArray k) (g := fun k => (findBy Value.isStrOf es.toArray k).getD .none) ha (mapOf_K x hl hk) (fun y d e => ?_) (fun y e => dctK_none hd e) (RpS_of fun y d m => ?_)
  · obtain ⟨v, a, _⟩ := dctK_some hd e
    show findBy Value.isStrOf es.toArray y = some ((findBy Value.isStrOf es.toArray y).getD .none)
    rw [a]; rfl
  · obtain ⟨v, a, b⟩ := dctK_some hd (dctK_mem hd m)
    show Rep X h ((findBy Value.isStrOf es.toArray y).getD .none) d
    rw [a]; exact b
noncomputable def entB (K : Frag) : Str × D → Bool
  | (x, .fn a) => (match nsIn K mainGlobals x with | some (some (.ref b)) => Nat.beq a b && fnAt K a | _ => false)
  | (x, .int i) => (match nsIn K mainGlobals x with | some (some (.int j _)) => decide (i = j) | _ => false)
  | (x, .bi b) => (match nsIn K mainGlobals x with | some none => (bootBuiltins x == some b.val && !seqb x ⟨#[95, 95, 110, 97, 109, 101, 95, 95]⟩) | _ => false)
  | _ => false
structure Bs (K : Frag) (mg mb : Str → Option Value) (h : Heap) : Prop where
  K : K.In h
  nl : h.NoLimit
  g : h.Ns mainGlobals mg
  b : h.Ns builtinsNs mb
theorem Bs.keeps {mg mb : Str → Option Value} {h h' : Heap} (x : Bs K mg mb h) (k : h.StaysIn h') : Bs K mg mb h' := ⟨x.K.keeps k, x.nl.keeps k, x.g.keeps k, x.b.keeps k⟩
theorem gl_val {mg mb : Str → Option Value} {x : Str} {v : Value} {d : D} (B : Bs K mg mb h) (e : nsIn K mainGlobals x = some (some v)) (r : Rep X h v d) : GlA X h x d :=
  .mk v (.inl ⟨mg, B.g, mg_of B.K B.g e⟩) r
theorem gl_bi {mg mb : Str → Option Value} {x : Str} {b : Bi} (B : Bs K mg mb h) (hb : ∀ x : Str, x ≠ "__name__" → mb x = bootBuiltins x) (e : nsIn K mainGlobals x = some none) (e1 : bootBuiltins x = some b.val) (e2 : seqb x ⟨#[95, 95, 110, 97, 109, 101, 95, 95]⟩ = false) : GlA X h x (.bi b) :=
  .mk b.val (.inr ⟨mg, mb, B.g, mg_none_of B.K B.g e, B.b, (hb x (fun q => by subst q; cases e2)).trans e1⟩) .it
set_option tactic.hygienic true in
theorem entB_gl {mg mb : Str → Option Value} {x : Str} {d : D} (B : Bs K mg mb h) (hb : ∀ x : Str, x ≠ "__name__" → mb x = bootBuiltins x) (e : entB K (x, d) = true) : GlA X h x d := by
  unfold entB at e
  cases d with
  | fn a =>
    dsimp only at e
    split at e
    · rename_i b q
      obtain ⟨e1, e2⟩ := Bool.and_eq_true_iff.mp e
      cases Nat.eq_of_beq_eq_true e1
      exact gl_val B q (rep_fn B.K e2)
    · cases e
  | int i =>
    dsimp only at e
    split at e
    · rename_i j t q
      cases of_decide_eq_true e
      exact gl_val B q (Rep.int _ _)
    · cases e
  | bi b =>
    dsimp only at e
    split at e
    · rename_i q
      obtain ⟨e1, e2⟩ := Bool.and_eq_true_iff.mp e
      exact gl_bi B hb q (eq_of_beq e1) (by cases h : seqb x ⟨#[95, 95, 110, 97, 109, 101, 95, 95]⟩ with | false => rfl | true => rw [h] at e2; cases e2)
    · cases e
  | _ => cases e
end
end Mine.Internal

end
section
open PySem PySem.W PyProof.Rows PySem.Calls
set_option Elab.async false
set_option tactic.hygienic false
set_option maxRecDepth 100000
set_option maxHeartbeats 4000000
set_option linter.all false
set_option backward.match.sparseCases false
set_option bootstrap.genMatcherCode false
namespace Mine.Internal
inductive TrQ : D → Sg → Prop
  | mk (σ : Sg) : TrQ (.bool true) σ
noncomputable def nb452 : PSigma fun b : List Stmt => bodyAt 70 = b := by
  refine ⟨?_, ?_⟩
  rotate_left
  conv => lhs; reduce
noncomputable def nn452 : PSigma fun b : List (Str × NameKind) => namesAt 70 = b := by
  refine ⟨?_, ?_⟩
  rotate_left
  conv => lhs; reduce
noncomputable def nbT : PSigma fun b : List Stmt => nb452.1.drop 5 = b := by
  refine ⟨?_, ?_⟩
  rotate_left
  conv => lhs; whnf



theorem idx_ops {n : Nat} {K : D → Prop} (hl : n < 23) (h2 : ∀ o : O2, K (.str o.nm)) (h1 : ∀ o : O1, K (.str o.nm)) : idx (dTwos ++ dOnes) (Int.ofNat n) K := by
  match n, hl with
  | 0, _ => exact h2 .add
  | 1, _ => exact h2 .sub
  | 2, _ => exact h2 .mul
  | 3, _ => exact h2 .div
  | 4, _ => exact h2 .divu
  | 5, _ => exact h2 .rem
  | 6, _ => exact h2 .remu
  | 7, _ => exact h2 .and
  | 8, _ => exact h2 .or
  | 9, _ => exact h2 .xor
  | 10, _ => exact h2 .shl
  | 11, _ => exact h2 .shr
  | 12, _ => exact h2 .sar
  | 13, _ => exact h2 .lt
  | 14, _ => exact h2 .ltu
  | 15, _ => exact h2 .eq
  | 16, _ => exact h2 .ne
  | 17, _ => exact h1 .neg
  | 18, _ => exact h1 .not
  | 19, _ => exact h1 .sx8
  | 20, _ => exact h1 .sx16
  | 21, _ => exact h1 .zx8
  | 22, _ => exact h1 .zx16
  | n + 23, h => exact absurd h (by (first | lia | omega))
theorem vc_law (V : List Int) (F : Fcs) (hcn : Con V F) (hV : AllV V) (hl : 3 ≤ V.length ∧ V.length ≤ 9) (σ : Sg) (h : InvS σ) :
    wpSs (gx 14) 60 ⟨nn452.1, [(⟨#[119, 101, 108, 108]⟩, .wel), (⟨#[109, 97, 110, 121]⟩, .int (Int.ofNat V.length))]⟩ nbT.1 [(⟨#[118, 97, 108, 117, 101, 115]⟩, .lst (V.map D.int)), (⟨#[102, 97, 99, 116, 115]⟩, .fac F.d)] σ (fun _ σ => TrQ .none σ) TrQ := by
  conv => whnf
  refine ⟨⟨by decide, by decide⟩, ?_⟩
  refine .mk (loop_range (bind := fun d ρ K => tgtW _ _ d ρ K) (body := fun ρ σ K => Rc.ss _ _ _ ρ σ K _) (fun i ρ s => InvS s ∧ ρ = [(⟨#[118, 97, 108, 117, 101, 115]⟩, .lst (V.map D.int)), (⟨#[102, 97, 99, 116, 115]⟩, .fac F.d)]) ⟨h, rfl⟩ ?_ ?_)
  · intro i ρ s hi hI K' hK
    rcases hI with ⟨hs, rfl⟩
    repeat' ((first | change @Bool.rec (fun _ => Prop) _ _ _ | change RP _ _ _ _ _ | change CT _ _ _ _ _ | change And _ _ | change WM _ _ _ | change Ok _ _ _ | conv => whnf); first
        | exact TrQ.mk _
        | refine CT.ldraw rfl (by assumption) ⟨by decide, by decide⟩ (fun m s1 hm hi => ?_)
        | refine idx_ops (by exact hm) (fun o => ?_) (fun o => ?_)
        | refine WIf.on (in2_twos _) ?_
        | refine WIf.off (in1_twos _) ?_
        | refine CT.lopd (m := V.length) rfl (by assumption) (by (first | lia | omega)) (fun b s2 hb hi2 => ?_)
        | refine CT.lright (V := V) (F := F) (s := .two o _ _) rfl hcn hV ⟨by assumption, by assumption⟩ rfl ?_
        | refine CT.lright (V := V) (F := F) (s := .one o _) rfl hcn hV (by assumption) rfl ?_
        | refine CT.lspans (V := V) (F := F) rfl hcn hV ?_
        | exact hK _ _ ⟨by assumption, rfl⟩
        | refine WIf.on (by with_reducible assumption) ?_
        | refine WIf.off (by with_reducible assumption) ?_
        | refine ForI.mk ?_
        | refine And.intro (by first | decide | (first | lia | omega)) ?_)
  · intro ρ s hI
    rcases hI with ⟨hs, rfl⟩
    repeat' ((first | change @Bool.rec (fun _ => Prop) _ _ _ | change RP _ _ _ _ _ | change CT _ _ _ _ _ | change And _ _ | change WM _ _ _ | change Ok _ _ _ | conv => whnf); first
        | exact TrQ.mk _
        | refine CT.ldraw rfl (by assumption) ⟨by decide, by decide⟩ (fun m s1 hm hi => ?_)
        | refine idx_ops (by exact hm) (fun o => ?_) (fun o => ?_)
        | refine WIf.on (in2_twos _) ?_
        | refine WIf.off (in1_twos _) ?_
        | refine CT.lopd (m := V.length) rfl (by assumption) (by (first | lia | omega)) (fun b s2 hb hi2 => ?_)
        | refine CT.lright (V := V) (F := F) (s := .two o _ _) rfl hcn hV ⟨by assumption, by assumption⟩ rfl ?_
        | refine CT.lright (V := V) (F := F) (s := .one o _) rfl hcn hV (by assumption) rfl ?_
        | refine CT.lspans (V := V) (F := F) rfl hcn hV ?_
        | exact hK _ _ ⟨by assumption, rfl⟩
        | refine WIf.on (by with_reducible assumption) ?_
        | refine WIf.off (by with_reducible assumption) ?_
        | refine ForI.mk ?_
        | refine And.intro (by first | decide | (first | lia | omega)) ?_)
end Mine.Internal

end
section
open PySem PySem.W PyProof.Rows PySem.Calls
set_option Elab.async false
set_option maxRecDepth 100000
set_option maxHeartbeats 4000000
set_option linter.all false
set_option genSizeOf false
set_option genInjectivity false
set_option backward.match.sparseCases false
set_option bootstrap.genMatcherCode false
namespace Mine.Internal
theorem RepL.nil' {X : Wd} {h : Heap} : RepL X h [] [] := Nl.nil
theorem RepL.cons' {X : Wd} {h : Heap} {v : Value} {d : D} {vs : List Value} {ds : List D} (a : Rep X h v d) (b : RepL X h vs ds) : RepL X h (v :: vs) (d :: ds) := Cs.cons a b
noncomputable def AllG (P : Str → D → Prop) : GT → Prop
  | .nil => True
  | .node l _ y d r => AllG P l ∧ P y d ∧ AllG P r
theorem AllG.find {P : Str → D → Prop} {n : Nat} {x : Str} {d : D} : ∀ {t : GT}, AllG P t → gfk n x t = some d → P x d
  | .nil, _, h => nomatch h
  | .node l k y e r, ⟨a, b, c⟩, h => by
    have h : (match Nat.beq n k with | true => (match seqb x y with | true => some e | false => none) | false => match Nat.blt n k with | true => gfk n x l | false => gfk n x r) = some d := h
    cases q : Nat.beq n k with
    | true =>
      rw [q] at h
      cases q' : seqb x y with
      | true => rw [q'] at h; cases h; rw [seqb_iff.mp q']; exact b
      | false => rw [q'] at h; cases h
    | false =>
      rw [q] at h
      cases q' : Nat.blt n k with
      | true => rw [q'] at h; exact AllG.find a h
      | false => rw [q'] at h; exact AllG.find c h
theorem rep_str {X : Wd} {h : Heap} {x y : Str} {t : Tok} (e : seqb x y = true) (o : PyData.strOk y = true) : Rep X h (.str x t) (.str y) := by
  cases seqb_iff.mp e
  exact Rep.str _ _ o
theorem AllG.at {P : Str → D → Prop} {l r : GT} {k : Nat} {y : Str} {d : D} (b : P y d) (a : AllG P l) (c : AllG P r) : AllG P (.node l k y d r) := ⟨a, b, c⟩
theorem keysNil {p : Params} : KeysLit p [] := trivial
theorem keysOne {p : Params} {x : Str} {t : Tok} {v : Value} {es : List DictEntry} (h : KeysLit p es) : KeysLit p (⟨PyData.keyHash p x, .str x t, v⟩ :: es) := ⟨⟨_, _, rfl, rfl⟩, h⟩
theorem dctNil {X : Wd} {h : Heap} : DctK X h [] [] := trivial
theorem dctOne {X : Wd} {h : Heap} {k : Int} {x : Str} {t : Tok} {v : Value} {d : D} {es : List DictEntry} {ds : List (Str × D)} (q : Rep X h v d) (hn : lk x ds = none) (r : DctK X h es ds) : DctK X h (⟨k, .str x t, v⟩ :: es) ((x, d) :: ds) := ⟨⟨⟨_, rfl⟩, hn, q⟩, r⟩
noncomputable def AllF {α : Type} (P : Nat → α → Prop) : List (Nat × α) → Prop
  | [] => True
  | (k, e) :: r => P k e ∧ AllF P r
theorem AllF.find {α : Type} {P : Nat → α → Prop} {n : Nat} {e : α} : ∀ {l : List (Nat × α)}, AllF P l → lkN n l = some e → P n e
  | [], _, h => nomatch h
  | (k, x) :: l, ⟨a, b⟩, h => by
    have h : (match Nat.beq n k with | true => some x | false => lkN n l) = some e := h
    cases q : Nat.beq n k with
    | true => rw [q] at h; cases h; cases Nat.eq_of_beq_eq_true q; exact a
    | false => rw [q] at h; exact AllF.find b h
theorem AllF.app {α : Type} {P : Nat → α → Prop} : ∀ {l r : List (Nat × α)}, AllF P l → AllF P r → AllF P (l ++ r)
  | [], _, _, b => b
  | (_, _) :: _, _, ⟨a, c⟩, b => ⟨a, AllF.app c b⟩
noncomputable def Of (K : Frag) (k : Nat) (e : List Str × List (Str × NameKind) × List Stmt) : Prop := FnOk K k e.1 e.2.1 e.2.2
theorem len0 {P : List Value → Prop} (h : P []) (vs : List Value) (q : vs.length = 0) : P vs := by
  rw [List.eq_nil_of_length_eq_zero q]; exact h
theorem lenS {P : List Value → Prop} {n : Nat} (h : ∀ a vs, vs.length = n → P (a :: vs)) (vs : List Value) (q : vs.length = n + 1) : P vs := by
  induction vs with
  | nil => exact absurd q.symm (Nat.succ_ne_zero n)
  | cons a r _ => exact h a r (Nat.succ.inj q)
theorem len1 {P : List Value → Prop} (h : ∀ a, P [a]) (vs : List Value) (q : vs.length = 1) : P vs := lenS (fun a => len0 (h a)) vs q
theorem len2 {P : List Value → Prop} (h : ∀ a b, P [a, b]) (vs : List Value) (q : vs.length = 2) : P vs := lenS (fun a => len1 (h a)) vs q
theorem len3 {P : List Value → Prop} (h : ∀ a b c, P [a, b, c]) (vs : List Value) (q : vs.length = 3) : P vs := lenS (fun a => len2 (h a)) vs q
theorem len4 {P : List Value → Prop} (h : ∀ a b c d, P [a, b, c, d]) (vs : List Value) (q : vs.length = 4) : P vs := lenS (fun a => len3 (h a)) vs q
noncomputable def fdK (K : Frag) (a : Addr) : Option FuncData := match K.lookup a with
  | some ⟨_, _, .func fd, _⟩ => some fd
  | _ => none
noncomputable def kindF (k : ScopeKind) : Bool := match k with | .function => true | _ => false
theorem kindF_inv {k : ScopeKind} (h : kindF k = true) : k = .function := by
  cases k with
  | function => rfl
  | _ => cases h
theorem not_inv {b : Bool} (h : (!b) = true) : b = false := by cases b with | false => rfl | true => cases h
theorem and7 {a b c d e f g : Bool} (h : (a && b && c && d && e && f && g) = true) : a = true ∧ b = true ∧ c = true ∧ d = true ∧ e = true ∧ f = true ∧ g = true := by
  simpa only [Bool.and_eq_true, and_assoc] using h
noncomputable def okF (K : Frag) (fd : FuncData) : Bool := fd.closure.isEmpty && Nat.beq fd.globals mainGlobals && Nat.beq fd.builtins builtinsNs && codeIn K fd.code fd.qualname && !fd.scope.isCoroutine && !fd.scope.isGenerator && kindF fd.scope.kind
noncomputable def bodyF (fd : FuncData) : Option (List Stmt) := match fd.body with | .stmts b => some b | _ => none
theorem bodyF_inv {fd : FuncData} {b : List Stmt} (h : bodyF fd = some b) : fd.body = .stmts b := by
  unfold bodyF at h
  cases hb : fd.body with
  | stmts b' => rw [hb] at h; cases h; rfl
  | _ => rw [hb] at h; cases h
noncomputable def okK (K : Frag) (a : Addr) : Bool := match fdK K a with
  | some fd => okF K fd
  | none => false
noncomputable def bodyK (K : Frag) (a : Addr) : Option (List Stmt) := match fdK K a with
  | some fd => bodyF fd
  | none => none
noncomputable def namesK (K : Frag) (a : Addr) : List (Str × NameKind) := match fdK K a with
  | some fd => fd.scope.names
  | none => []
noncomputable def bindK (K : Frag) (a : Addr) (vs : List Value) : Sem (List (Str × Value)) := match fdK K a with
  | some fd => bindArgs fd ⟨vs, []⟩
  | none => pure []
inductive FdAt (K : Frag) (a : Addr) (fd : FuncData) : Prop
  | mk (o : Obj) : K.lookup a = some o → o.data = .func fd → FdAt K a fd
theorem fdK_inv {K : Frag} {a : Addr} {fd : FuncData} (h : fdK K a = some fd) : FdAt K a fd := by
  unfold fdK at h
  split at h
  · rename_i c d f sl q; cases h; exact .mk _ q rfl
  · cases h
theorem fo_mk {K : Frag} {a : Addr} {xs : List Str} {names : List (Str × NameKind)} {body : List Stmt} (h1 : okK K a = true) (h2 : bodyK K a = some body) (h4 : namesK K a = names)
    (h5 : ∀ vs : List Value, vs.length = xs.length → bindK K a vs = pure (xs.zip vs)) (h6 : fnNames names = true) (h7 : fnPars names xs = true) : FnOk K a xs names body := by
  unfold okK at h1
  unfold bodyK at h2
  unfold namesK at h4
  unfold bindK at h5
  cases hl : fdK K a with
  | none => rw [hl] at h1; cases h1
  | some fd =>
    rw [hl] at h1 h2 h4 h5
    cases fdK_inv hl with | mk o q r =>
    have k := and7 h1
    exact ⟨.mk _ fd q r (bodyF_inv h2) (List.isEmpty_iff.mp k.1) (Nat.eq_of_beq_eq_true k.2.1) (Nat.eq_of_beq_eq_true k.2.2.1) k.2.2.2.1 (not_inv k.2.2.2.2.1) (not_inv k.2.2.2.2.2.1) (kindF_inv k.2.2.2.2.2.2) h4 h5, h6, h7⟩
theorem AllF.at {α : Type} {P : Nat → α → Prop} {k : Nat} {e : α} {r : List (Nat × α)} (a : P k e) (b : AllF P r) : AllF P ((k, e) :: r) := ⟨a, b⟩
theorem AllF.nil' {α : Type} {P : Nat → α → Prop} : AllF P [] := trivial
noncomputable abbrev nWell : Str := ⟨#[119, 101, 108, 108]⟩
noncomputable abbrev nMany : Str := ⟨#[109, 97, 110, 121]⟩
noncomputable abbrev nScript : Str := ⟨#[115, 99, 114, 105, 112, 116]⟩
noncomputable abbrev nValues : Str := ⟨#[118, 97, 108, 117, 101, 115]⟩
noncomputable abbrev nShapes : Str := ⟨#[115, 104, 97, 112, 101, 115]⟩
noncomputable def facBody : List Stmt := match stAt 51 with
  | some (Stmt.ClassDef _ _ _ b _ _ _ _ _ _ _) => b
  | _ => []
noncomputable def facAt (i : Nat) : List Stmt := match facBody[i]? with
  | some (.FunctionDef _ _ b _ _ _ _ _ _ _) => b
  | _ => []
noncomputable def facNm (i : Nat) : List (Str × NameKind) := match facBody[i]? with
  | some (.FunctionDef _ _ _ _ _ _ sc _ _ _) => sc.names
  | _ => []
noncomputable def nb328 : PSigma fun b : List Stmt => facAt 3 = b := by
  refine ⟨?_, ?_⟩
  rotate_left
  conv => lhs; reduce
noncomputable def nn328 : PSigma fun b : List (Str × NameKind) => facNm 3 = b := by
  refine ⟨?_, ?_⟩
  rotate_left
  conv => lhs; reduce
noncomputable abbrev nSelf : Str := ⟨#[115, 101, 108, 102]⟩
noncomputable abbrev nOps : Str := ⟨#[111, 112, 101, 114, 97, 110, 100, 115]⟩
noncomputable abbrev nLast : Str := ⟨#[108, 97, 115, 116, 105, 110, 103]⟩
noncomputable abbrev nMade : Str := ⟨#[109, 97, 100, 101]⟩
noncomputable abbrev nSetAt : Str := ⟨#[115, 101, 116, 95, 97, 116]⟩
noncomputable abbrev nNow : Str := ⟨#[110, 111, 119]⟩
noncomputable def lasBody : List Stmt := match stAt 50 with
  | some (Stmt.ClassDef _ _ _ b _ _ _ _ _ _ _) => b
  | _ => []
noncomputable def lasAt (i : Nat) : List Stmt := match lasBody[i]? with
  | some (Stmt.FunctionDef _ _ b _ _ _ _ _ _ _) => b
  | _ => []
noncomputable def lasNm (i : Nat) : List (Str × NameKind) := match lasBody[i]? with
  | some (Stmt.FunctionDef _ _ _ _ _ _ sc _ _ _) => sc.names
  | _ => []
noncomputable def nbL : PSigma fun b : List Stmt => lasAt 0 = b := by
  refine ⟨?_, ?_⟩
  rotate_left
  conv => lhs; reduce
noncomputable def nnL : PSigma fun b : List (Str × NameKind) => lasNm 0 = b := by
  refine ⟨?_, ?_⟩
  rotate_left
  conv => lhs; reduce
noncomputable def nbF : PSigma fun b : List Stmt => facAt 0 = b := by
  refine ⟨?_, ?_⟩
  rotate_left
  conv => lhs; reduce
noncomputable def nnF : PSigma fun b : List (Str × NameKind) => facNm 0 = b := by
  refine ⟨?_, ?_⟩
  rotate_left
  conv => lhs; reduce
noncomputable abbrev nClsLasting : Str := ⟨#[76, 97, 115, 116, 105, 110, 103]⟩
noncomputable abbrev nClsFacts : Str := ⟨#[70, 97, 99, 116, 115]⟩

structure KCls (K : Frag) (C I : Addr) : Prop where
  makes : makesIn K C = true
  init : findIn K (.ref C) "__init__" = some (some (.ref I))
  initF : typeIn K (.ref I) = some (.type "function")
  set : findIn K (.ref C) "__setattr__" = some (some (.builtin "object.__setattr__"))
  over : plainOver K C = true
  dict : hasDictIn K C = true
  keep : keepIn K (.ref C) = true
class Kit (K : World → Frag) : Prop where
  gl : ∀ {X : Wd} {h : Heap} {mg mb : Str → Option Value}, Bs (K X.w) mg mb h → (∀ x : Str, x ≠ "__name__" → mb x = bootBuiltins x) → AllG (GlA X h) GL
  inl : ∀ w, AllF (Of (K w)) inlT
  out : ∀ w, AllF (Of (K w)) outT
  f328 : ∀ w, FnOk (K w) 328 [⟨#[115, 101, 108, 102]⟩, ⟨#[111, 112, 101, 114, 97, 110, 100]⟩] nn328.1 nb328.1
  f450 : ∀ w, FnOk (K w) 450 [nScript] nn452.1 nb452.1
  f286 : ∀ w, FnOk (K w) 286 [nSelf, nOps, nShapes] nnL.1 nbL.1
  f307 : ∀ w, FnOk (K w) 307 [nSelf, nLast] nnF.1 nbF.1
  las : ∀ w, KCls (K w) 289 286
  fac : ∀ w, KCls (K w) 345 307
  lasS : ∀ w, takerIn (K w) 289 nOps = some none ∧ takerIn (K w) 289 nShapes = some none
  lasG : ∀ w, plainGet (K w) 289 nOps = true ∧ plainGet (K w) 289 nShapes = true ∧ findIn (K w) (.ref 289) nOps = some none ∧ findIn (K w) (.ref 289) nShapes = some none
  facS : ∀ w, takerIn (K w) 345 nOps = some none ∧ takerIn (K w) 345 nShapes = some none ∧ takerIn (K w) 345 nMade = some none ∧ takerIn (K w) 345 nSetAt = some none ∧ takerIn (K w) 345 nNow = some none
  facG : ∀ w, findIn (K w) (.ref 345) "__getattribute__" = some (some (.builtin "object.__getattribute__"))
  facA : ∀ w, findIn (K w) (.ref 345) "__getattr__" = some none
  facM : ∀ w, findIn (K w) (.ref 345) sShape = some (some (.ref 328)) ∧ typeIn (K w) (.ref 328) = some (.type "function")
  facO : ∀ w es n (name : Str) b, name = "shapes" ∨ name = "made" → getL name es = some (some (.ref b)) → findObj (K w) 345 (some (dictOf es n)) name = some (.value (.ref b))
  gLas : ∀ w, nsIn (K w) mainGlobals nClsLasting = some (some (.ref 289))
  gFac : ∀ w, nsIn (K w) mainGlobals nClsFacts = some (some (.ref 345))
theorem fnAt_of {K : Frag} {a : Addr} {xs : List Str} {names : List (Str × NameKind)} {body : List Stmt} (h : FnOk K a xs names body) : fnAt K a = true := by
  cases h with | mk ob nm pars =>
  cases ob with | mk o fd ho hd hb' hclo hgl hbu hcode hco hgen hk hnm hbind =>
  unfold fnAt
  rw [ho]
  obtain ⟨c, d, dt, sl⟩ := o
  cases (show dt = _ from hd)
  rfl
theorem aok_caller : AOk callerA 15 := ⟨rfl, by decide, by decide⟩
end Mine.Internal

end
section
open PySem PySem.W PyProof.Rows PySem.Calls
set_option Elab.async false
set_option tactic.hygienic false
set_option maxRecDepth 100000
set_option maxHeartbeats 4000000
set_option linter.all false
set_option genSizeOf false
set_option genInjectivity false
set_option backward.match.sparseCases false
set_option bootstrap.genMatcherCode false
namespace Mine.Internal
variable {KH : World → Frag} [kit : Kit KH]
theorem gl_all {X : Wd} {h : Heap} {mg mb : Str → Option Value} (B : Bs (KH X.w) mg mb h) (hb : ∀ x : Str, x ≠ "__name__" → mb x = bootBuiltins x) : AllG (GlA X h) GL := kit.gl B hb
theorem fn_all {w : World} {a : Nat} {xs : List Str} {names : List (Str × NameKind)} {body : List Stmt} (h : lkN a fnT = some (xs, names, body)) : FnOk (KH w) a xs names body :=
  AllF.find (P := Of (KH w)) (AllF.app (kit.inl w) (kit.out w)) h
theorem fnAt_lk {w : World} {a : Nat} {xs : List Str} {names : List (Str × NameKind)} {body : List Stmt} (h : lkN a fnT = some (xs, names, body)) : fnAt (KH w) a = true := fnAt_of (fn_all h)
end Mine.Internal

end
section
open PySem PySem.W PyProof.Rows PySem.Calls
set_option Elab.async false
set_option tactic.hygienic false
set_option maxRecDepth 100000
set_option maxHeartbeats 4000000
set_option linter.all false
set_option genSizeOf false
set_option genInjectivity false
set_option backward.match.sparseCases false
set_option bootstrap.genMatcherCode false
namespace Mine.Internal
variable {KH : World → Frag} [kit : Kit KH]
section
variable {w : World} {h : Heap}
inductive BigA (h : Heap) : Prop
  | mk (a : Addr) (o : Obj) (e : h.get? a = some o) (q : Nat.ble sysModules a = true)
theorem fac_inst {cf x dsh : Addr} (f : FacBase cf h x dsh) : ∃ ox dx es n, InstAt h x ox cf (some (dictOf es n)) ∧ ox.dict = some dx ∧ getL "shape" es = some none := by
  obtain ⟨dx, dm, es, n, n', sl, h1, h2, h3, h4, h5, h6, h7, h8⟩ := f
  exact ⟨_, dx, es, n, ⟨h1, rfl, rfl, h2⟩, rfl, h6⟩
theorem getm_K {prog : Program} {X : Wd} (hX : X.cf = 345) {A : Around} {s : Shared} {hid : List Addr} {l : List (Int × D)} {v : Value} {name : Str} {pl : Sem Bool} {Q : Value × List Value → Shared → Prop} (K : (KH w).In (hideAll s.heap hid))
    (r : Rep X (hideAll s.heap hid) v (.fac l)) (e : seqb name sShape = true) (q : Q (.ref 328, [v]) s) : wpAny (model prog w) A (getMethod v name pl) Q NoE s := by
  cases r with
  | fac fb _ _ _ _ =>
    obtain ⟨ox, dx, es, n, I, hd, hs⟩ := fac_inst fb
    rw [hX] at I
    cases seqb_iff.mp e
    have st : (hideAll s.heap hid).StaysIn s.heap := hideAll_sub (l' := []) s.heap (fun _ q => nomatch q)
    have I' : InstAt s.heap _ ox 345 (some (dictOf es n)) := ⟨st _ _ I.at_, I.cls, I.no, by
      have := I.dict
      rw [hd] at this ⊢
      exact st _ _ this⟩
    refine method_fn (K := KH w) (K.keeps st) I' (kit.facG w) (kit.facA w) (f := 328) (kit.facM w).1 (kit.facM w).2 ?_ q
    show (getL sShape es).map (·.isSome) = some false
    have hs : getL sShape es = some none := hs
    rw [hs]; rfl
end
end Mine.Internal

end
section
open PySem PySem.W PyProof.Rows PySem.Calls
set_option Elab.async false
set_option tactic.hygienic false
set_option maxRecDepth 100000
set_option maxHeartbeats 4000000
set_option linter.all false
set_option genSizeOf false
set_option genInjectivity false
set_option backward.match.sparseCases false
set_option bootstrap.genMatcherCode false
namespace Mine.Internal
variable {KH : World → Frag} [kit : Kit KH]
section
variable {w : World} {h : Heap} {prog : Program} {A : Around} {s : Shared}
theorem fac_attr {x : Addr} {ox : Obj} {es : List DictEntry} {n : Nat} {name : Str} {b : Addr} {expr : Bool} {Q : Value → Shared → Prop} {E : Value → Shared → Prop} (K : (KH w).In s.heap) (I : InstAt s.heap x ox 345 (some (dictOf es n)))
    (hg : getL name es = some (some (.ref b))) (hn : name = "shapes" ∨ name = "made") (h : Q (.ref b) { s with toks := s.toks + 1 }) : wpAny (model prog w) A (getAttr (.ref x) name expr) Q E s := by
  exact get_value (K := KH w) K I (kit.facG w) (kit.facO w es n name b hn hg) rfl h
end
end Mine.Internal

end
section
open PySem PySem.W PyProof.Rows PySem.Calls
set_option Elab.async false
set_option tactic.hygienic false
set_option maxRecDepth 100000
set_option maxHeartbeats 4000000
set_option linter.all false
set_option genSizeOf false
set_option genInjectivity false
set_option backward.match.sparseCases false
set_option bootstrap.genMatcherCode false
namespace Mine.Internal
end Mine.Internal

end
section
open PySem PySem.W PyProof.Rows PySem.Calls
set_option Elab.async false
set_option tactic.hygienic false
set_option maxRecDepth 100000
set_option maxHeartbeats 4000000
set_option linter.all false
set_option genSizeOf false
set_option genInjectivity false
set_option backward.match.sparseCases false
set_option bootstrap.genMatcherCode false
namespace Mine.Internal
structure Mid (s : Shared) (L : Addr) (m : Str → Option Value) (s' : Shared) : Prop where
  ns : s'.heap.Ns L m
  g : Grow s s'
  no : s.heap.get? L = none
section
variable {X : Wd} {A : Around} {s s' : Shared} {hid : List Addr} {L : Addr} {m : Str → Option Value} {env : Env} {Z : Value → Shared → Prop}
structure EnvF (env : Env) (L : Addr) (names : List (Str × NameKind)) : Prop where
  kind : env.scope.kind = .function
  loc : env.locals = L
  names : ∀ x k, lk x names = some k → env.kindOf x = some k
theorem Mid.tk (M : Mid s L m s') (n : Nat) : Mid s L m { s' with toks := n } := ⟨M.ns, M.g.trans (.toks _ _), M.no⟩
theorem mid_name {names : List (Str × NameKind)} (e : EnvF env L names) {x : Str} {p : Pos} {v : Value} (M : Mid s L m s') (hk : lk x names = some .local) (hd : (x == ("__debug__" : Str)) = false) (hv : m x = some v) (h : Z v s') :
    wpAny (model X.prog X.w) A (eval (.Name x p) env) Z NoE s' :=
  wpAny_Name (wpAny_loadName_local e.kind (e.names _ _ hk) (e.loc ▸ M.ns) hv h) hd
theorem mid_item {names : List (Str × NameKind)} (e : EnvF env L names) {x : Str} {p p' pos : Pos} {k n : Nat} {v : Value} {l : List D} {d : D} (M : Mid s L m s') (hk : lk x names = some .local) (hd : (x == ("__debug__" : Str)) = false) (hv : m x = some v)
    (r : Rep X (hideAll s.heap hid) v (.tup l)) (hn : l[n]? = some d) (h : ∀ u s2, Mid s L m s2 → Rep X (hideAll s.heap hid) u d → Z u s2) :
    wpAny (model X.prog X.w) A (eval (.Subscript (.Name x p) (.Constant (.int (Int.ofNat n)) k p') pos) env) Z NoE s' := by
  cases r with | tup z t1 t2 =>
  obtain ⟨u, hu, ru⟩ := RepL.get t2 hn
  have hlt := lt_size hu
  refine Subscript_ (mid_name e M hk hd hv (wpAny_Constant_int ?_))
  have ht := (t1.keeps (stays_out hid)).keeps M.g.stays
  exact tailItem (X := X) (s := { s' with toks := s'.toks + 1 }) ht.typeIs slot_tuple_getitem.lookup (getItem_tuple ht (small63' _) (small63 (by (first | lia | omega))) (seqIndex_of hlt) (by rw [← Array.getElem?_toList]; exact hu) (h u _ (M.tk _) ru)) rfl
end
end Mine.Internal

end
section
open PySem PySem.W PyProof.Rows PySem.Calls
set_option Elab.async false
set_option tactic.hygienic false
set_option maxRecDepth 100000
set_option maxHeartbeats 4000000
set_option linter.all false
set_option genSizeOf false
set_option genInjectivity false
set_option backward.match.sparseCases false
set_option bootstrap.genMatcherCode false
namespace Mine.Internal
variable {KH : World → Frag} [kit : Kit KH]
section
variable {w : World} {prog : Program} {A : Around} {s s' : Shared} {hid : List Addr} {L : Addr} {m : Str → Option Value} {env : Env} {Z : Value → Shared → Prop}
theorem Mid.grow {s s' s2 : Shared} {L : Addr} {m : Str → Option Value} (M : Mid s L m s') (g : Grow s' s2) : Mid s L m s2 := ⟨M.ns.keeps g.stays, M.g.trans g, M.no⟩
theorem mid_attr {names : List (Str × NameKind)} (e : EnvF env L names) {x name : Str} {p pos : Pos} {a b : Addr} {ox : Obj} {es : List DictEntry} {n : Nat} (K : (KH w).In s.heap) (M : Mid s L m s') (hk : lk x names = some .local) (hd : (x == ("__debug__" : Str)) = false) (hv : m x = some (.ref a))
    (I : InstAt s.heap a ox 345 (some (dictOf es n))) (hdx : ox.dict.isSome = true) (hg : getL name es = some (some (.ref b))) (hn : name = "shapes" ∨ name = "made") (h : ∀ s2, Mid s L m s2 → Z (.ref b) s2) :
    wpAny (model prog w) A (eval (.Attribute (.Name x p) name pos) env) Z NoE s' := by
  rw [arm_eval_Attribute]
  refine wpAny_bind (mid_name (X := ⟨prog, w, 0, 0, 0⟩) e M hk hd hv ?_)
  refine wpAny_bind (wpAny_standAt ?_)
  have I' : InstAt s'.heap a ox 345 (some (dictOf es n)) := ⟨M.g.stays _ _ I.at_, I.cls, I.no, by
    have q := I.dict
    cases e : ox.dict with
    | none => rw [e] at hdx; cases hdx
    | some dx => rw [e] at q; exact M.g.stays _ _ q⟩
  refine wpAny_bind (wpAny_holding (fac_attr (K.keeps M.g.stays) I' hg hn ?_))
  exact wpAny_bind (wpAny_pure (wpAny_pure (h _ (M.tk _))))
theorem mid_ne {X : Wd} (hA : A.units + 64 < cLine) {names : List (Str × NameKind)} (e : EnvF env L names) {x y : Str} {p p' p'' p3 pos : Pos} {k k' : Nat} {v : Value} {q : Str} {l : List D} {Z : Bool → Shared → Prop} (M : Mid s L m s') (hk : lk x names = some .local) (hd : (x == ("__debug__" : Str)) = false) (hv : m x = some v)
    (r : Rep X (hideAll s.heap hid) v (.tup (.str q :: l))) (oy : PyData.strOk y = true) (h : ∀ s2, Mid s L m s2 → Z (!seqb q y) s2) :
    wpAny (model X.prog X.w) A (isTrue (.Compare (.Subscript (.Name x p) (.Constant (.int (Int.ofNat 0)) k p') p'') [.NotEq] [.Constant (.str y) k' p3] pos) env (eval (.Compare (.Subscript (.Name x p) (.Constant (.int (Int.ofNat 0)) k p') p'') [.NotEq] [.Constant (.str y) k' p3] pos) env)) Z NoE s' := by
  show wpAny (model X.prog X.w) A (do testChain pos (← eval (.Subscript (.Name x p) (.Constant (.int (Int.ofNat 0)) k p') p'') env) [.NotEq] (markedEach [.NotEq] [.Constant (.str y) k' p3] [eval (.Constant (.str y) k' p3) env])) _ _ s'
  rw [markedEach_of_false _ _ _ (show lastMarks [.NotEq] [.Constant (.str y) k' p3] = false from behind_false rfl)]
  refine wpAny_bind (mid_item e M hk hd hv r (n := 0) rfl fun u s2 M2 ru => ?_)
  refine test_last (Constant_str ?_)
  have st : (hideAll s.heap hid).StaysIn (hideAll s2.heap hid) := stays_hid hid M2.g.stays
  refine wpAny_mono (neW_sound (X := X) (hid := hid) (s := { s2 with toks := s2.toks + 1 }) (a := .str q) (b := .str y) (K := fun c => c = !seqb q y) hA (show (!seqb q y) = _ from rfl) (ru.keeps st) (Rep.str y _ oy)) (fun c s3 r => ?_) fun _ _ x => x
  cases r with | mk b eb kb gr =>
  subst eb; subst kb
  exact wpAny_truthy_bool (h _ ((M2.tk _).grow gr))
theorem mid_in {X : Wd} (hw : X.w = w) (hp : X.prog = prog) {names : List (Str × NameKind)} (e : EnvF env L names) {x y name : Str} {p p' p'' pos : Pos} {a b : Addr} {ox : Obj} {es : List DictEntry} {n : Nat} {i : Int} {t : Tok} {f : Int → Option Value} {Z : Bool → Shared → Prop} (K : (KH w).In s.heap) (M : Mid s L m s')
    (hkx : lk x names = some .local) (hdx : (x == ("__debug__" : Str)) = false) (hvx : m x = some (.int i t)) (hky : lk y names = some .local) (hdy : (y == ("__debug__" : Str)) = false) (hvy : m y = some (.ref a))
    (I : InstAt s.heap a ox 345 (some (dictOf es n))) (hox : ox.dict.isSome = true) (hg : getL name es = some (some (.ref b))) (hn : name = "shapes" ∨ name = "made") (hb : (b == sysModules) = false) (hm : s.heap.MapOf (intKind prog w) b f)
    (h : ∀ s2, Mid s L m s2 → Z (f i).isSome s2) :
    wpAny (model prog w) A (isTrue (.Compare (.Name x p) [.In] [.Attribute (.Name y p') name p''] pos) env (eval (.Compare (.Name x p) [.In] [.Attribute (.Name y p') name p''] pos) env)) Z NoE s' := by
  show wpAny (model prog w) A (do testChain pos (← eval (.Name x p) env) [.In] (markedEach [.In] [.Attribute (.Name y p') name p''] [eval (.Attribute (.Name y p') name p'') env])) _ _ s'
  rw [markedEach_of_false _ _ _ (show lastMarks [.In] [.Attribute (.Name y p') name p''] = false from behind_false rfl)]
  refine wpAny_bind (mid_name (X := ⟨prog, w, 0, 0, 0⟩) e M hkx hdx hvx ?_)
  refine test_last (mid_attr e K M hky hdy hvy I hox hg hn fun s2 M2 => ?_)
  refine wpAny_in_of (intKind_is prog w i t) hb (mapOf_keeps hm M2.g.stays) ?_
  exact wpAny_truthy_bool (h _ (M2.tk _))
theorem mid_get {names : List (Str × NameKind)} (e : EnvF env L names) {x y name : Str} {p p' p'' pos : Pos} {a b : Addr} {ox : Obj} {es : List DictEntry} {n : Nat} {i : Int} {t : Tok} {f : Int → Option Value} {v : Value} (K : (KH w).In s.heap) (M : Mid s L m s')
    (hkx : lk x names = some .local) (hdx : (x == ("__debug__" : Str)) = false) (hvx : m x = some (.int i t)) (hky : lk y names = some .local) (hdy : (y == ("__debug__" : Str)) = false) (hvy : m y = some (.ref a))
    (I : InstAt s.heap a ox 345 (some (dictOf es n))) (hox : ox.dict.isSome = true) (hg : getL name es = some (some (.ref b))) (hn : name = "shapes" ∨ name = "made") (hm : s.heap.MapOf (intKind prog w) b f) (hf : f i = some v)
    (h : ∀ s2, Mid s L m s2 → Z v s2) :
    wpAny (model prog w) A (eval (.Subscript (.Attribute (.Name y p') name p'') (.Name x p) pos) env) Z NoE s' := by
  refine Subscript_ (mid_attr e K M hky hdy hvy I hox hg hn fun s2 M2 => mid_name (X := ⟨prog, w, 0, 0, 0⟩) e M2 hkx hdx hvx ?_)
  have hm' := mapOf_keeps hm M2.g.stays
  exact tailItem (X := ⟨prog, w, 0, 0, 0⟩) hm'.typeIs slot_dict_getitem.lookup (wpAny_getItem_of (intKind_is prog w _ t) hm' hf (h _ (M2.tk _))) rfl
end
end Mine.Internal

end
section
open PySem PySem.W PyProof.Rows PySem.Calls
set_option Elab.async false
set_option tactic.hygienic false
set_option maxRecDepth 100000
set_option maxHeartbeats 4000000
set_option linter.all false
set_option genSizeOf false
set_option genInjectivity false
set_option backward.match.sparseCases false
set_option bootstrap.genMatcherCode false
namespace Mine.Internal
inductive ShA (l : List (Int × D)) (K : D → Prop) : D → Prop
  | reg {q : Str} {i : Int} : seqb q ⟨#[114]⟩ = true → (∀ d, lki i l = some d → K d) → (lki i l = none → K .none) → ShA l K (.tup [.str q, .int i])
  | num {q : Str} {i : Int} : seqb q ⟨#[114]⟩ = false → K .none → ShA l K (.tup [.str q, .int i])
set_option tactic.hygienic true in
theorem shA_of {l : List (Int × D)} {d : D} {K : D → Prop} (h : shapeAt l d K) : ShA l K d := by
  unfold shapeAt pairW at h
  cases d <;> first | exact h.elim | skip
  rename_i ds
  cases ds with
  | nil => exact h.elim
  | cons a r =>
    cases a <;> first | exact h.elim | skip
    rename_i q
    cases r with
    | nil => exact h.elim
    | cons b r =>
      cases r with
      | cons _ _ => exact h.elim
      | nil =>
        cases b <;> first | exact h.elim | skip
        rename_i i
        have h : (match seqb q ⟨#[114]⟩ with | true => WM (lki i l) K (K .none) | false => K .none) := h
        cases e : seqb q ⟨#[114]⟩ with
        | true => rw [e] at h; exact .reg e h.some h.none
        | false => rw [e] at h; exact .num e h
end Mine.Internal
namespace Mine.Internal
variable {KH : World → Frag} [kit : Kit KH]
section
variable {w : World} {prog : Program} {A : Around} {s : Shared} {hid : List Addr}
theorem mid_store {A : Around} {s s' : Shared} {L : Addr} {m : Str → Option Value} {env : Env} {M : Model} {Z : Unit → Shared → Prop} {E : Value → Shared → Prop} {names : List (Str × NameKind)} (e : EnvF env L names) {x : Str} {v : Value} (M0 : Mid s L m s') (hk : lk x names = some .local)
    (h : ∀ s2, Mid s L (fun y => if y = x then some v else m y) s2 → Z () s2) : wpAny M A (storeName env x v) Z E s' := by
  refine wpAny_storeName_local (e.names _ _ hk) (e.loc ▸ M0.ns) (fun h' hn hs => h _ ⟨e.loc ▸ hn, ⟨fun b o q => (hs.2 _ (fun z => ?_)).trans (M0.g.stays _ _ q), by rw [M0.g.same]⟩, M0.no⟩) (by rw [e.kind]; rfl)
  rw [z, e.loc, M0.no] at q; cases q
set_option backward.match.sparseCases true in
theorem shp_K {X : Wd} (hX : X.cf = 345) (hw : X.w = w) {l : List (Int × D)} {d : D} {K : D → Prop} {vx vd : Value} (hA : AOk A 2) (KX : (KH w).In (hideAll s.heap hid)) (hlim : (hideAll s.heap hid).NoLimit) (live : Live hid s.heap)
    (rx : Rep X (hideAll s.heap hid) vx (.fac l)) (rd : Rep X (hideAll s.heap hid) vd d) (hs : shapeAt l d K) : wpAny (model X.prog X.w) A (call (.ref 328) [vx, vd]) (Res X hid K s) NoE s := by
  subst hw
  have st0 : (hideAll s.heap hid).StaysIn s.heap := stays_out hid
  have K0 : (KH X.w).In s.heap := KX.keeps st0
  have F := kit.f328 X.w
  cases F with | mk ob nm pars =>
  cases ob with | mk o fd ho hd hb hclo hgl hbu hcode hco hgen hk hnm hbind =>
  have hkl : ∀ x, fd.scope.names.lookup x = lk x nn328.1 := fun x => by rw [hnm, lk_lookup]
  refine wpAny_call (codeAny_call_cells (binds := [(⟨#[115, 101, 108, 102]⟩, vx), (⟨#[111, 112, 101, 114, 97, 110, 100]⟩, vd)]) (Nat.lt_trans (by have := hA.depth; (first | lia | omega) : A.depth < 900) (by decide)) (K0 _ _ ho) hd (hlim.keeps st0) (codeRec_of K0 hcode) hb (hbind [vx, vd] rfl) hclo (fun x hx => .inl ?_) (fun s₁ x => ?_) hco hgen hk)
  · rw [hkl]
    rcases List.mem_cons.mp hx with rfl | hx
    · rfl
    · rw [List.mem_singleton.mp hx]; rfl
  · obtain ⟨h₁, tk, rfl, keep⟩ := x.done
    generalize hLe : s.heap.objs.size = L at *
    have hLn : s.heap.get? L = none := Heap.get?_none_of_le (by rw [hLe]; exact Nat.le_refl _)
    have hkind : ∀ y, (callEnvC fd L 328).kindOf y = lk y nn328.1 := fun y => hkl y
    have M0 := Mid.mk (s := s) (s' := { s with heap := h₁, toks := tk }) x.toInCall.ns ⟨fun b o e => keep b o e, rfl⟩ hLn
    have e : EnvF (callEnvC fd L 328) L nn328.1 := ⟨hk, rfl, fun y k q => (hkind y).trans q⟩
    rw [bindL_upd hkind] at M0
    have hA' : (A.deeper (callEnvC fd L 328)).units + 64 < cLine := by have := hA.units; rw [Around.deeper_units]; (first | lia | omega)
    cases rx with | @fac _ dsh f g fb hm h1 h2 hr =>
    have fb0 := fb.keeps st0
    obtain ⟨dx, dm, es, n, n', sl, b1, b2, b3, b4, b5, b6, b7, b8⟩ := fb0
    rw [hX] at b1
    have I : InstAt s.heap _ _ 345 (some (dictOf es n)) := ⟨b1, rfl, rfl, b2⟩
    have hm0 := mapOf_keeps hm st0
    have hmd : s.heap.MapOf (intKind X.prog X.w) dm (fun _ => none) := ⟨_, #[], _, b5, ⟨rfl, rfl, rfl⟩, rfl, fun _ he => by simp at he, fun _ => rfl⟩
    have fin : ∀ {d : D} {v : Value} {s2 : Shared} {m : Str → Option Value}, K d → Rep X (hideAll s.heap hid) v d → Mid s L m s2 → Res X hid K s v s2 := fun {d v s2 m} k r M => .mk d k (r.keeps (stays_hid hid M.g.stays)) M.g
    refine wpAny_mono (show wpAny (model X.prog X.w) (A.deeper (callEnvC fd L 328)) (execs nb328.1 (callEnvC fd L 328)) (fun fl s' => Res X hid K s (match fl with | .ret v => v | _ => .none) s') NoE _ from ?_) (fun _ _ q => q) fun _ _ z => z.elim
    refine wpAny_execs_cons (wpAny_If ?_)
    cases shA_of hs with
    | num hq hk0 =>
      refine mid_ne (X := X) hA' e M0 (by rfl) (by rfl) (by rfl) rd (strOk_of (by rfl)) fun s2 M2 => ?_
      rw [hq]
      refine wpAny_execs_cons (wpAny_Return_some (wpAny_Constant_none ?_))
      exact fin hk0 .none M2
    | @reg q i hq hk0 hk1 =>
      refine mid_ne (X := X) hA' e M0 (by rfl) (by rfl) (by rfl) rd (strOk_of (by rfl)) fun s2 M2 => ?_
      rw [hq]
      refine wpAny_execs_nil (wpAny_execs_cons (wpAny_Assign_Name (mid_item (X := X) e M2 (by rfl) (by rfl) (by rfl) rd (n := 1) rfl fun u s3 M3 ru => ?_)))
      cases ru with | int t =>
      refine mid_store e M3 (by rfl) fun s4 M4 => ?_
      refine wpAny_execs_cons (wpAny_If (mid_in (X := X) rfl rfl e K0 M4 (by rfl) (by rfl) (by rfl) (by rfl) (by rfl) (by rfl) I rfl (by exact b3) (by exact .inl rfl) b8 hm0 fun s5 M5 => ?_))
      cases hl : lki i l with
      | some d =>
        rw [h1 _ _ hl]
        refine wpAny_execs_cons (wpAny_Return_some (mid_get (prog := X.prog) e K0 M5 (by rfl) (by rfl) (by rfl) (by rfl) (by rfl) (by rfl) I rfl (by exact b3) (by exact .inl rfl) hm0 (h1 _ _ hl) fun s6 M6 => ?_))
        exact fin (hk0 _ hl) (RpI.at hr hl) M6
      | none =>
        rw [h2 _ hl]
        refine wpAny_execs_nil (wpAny_execs_cons (wpAny_If (mid_in (X := X) rfl rfl e K0 M5 (by rfl) (by rfl) (by rfl) (by rfl) (by rfl) (by rfl) I rfl (by exact b4) (by exact .inr rfl) b7 hmd fun s6 M6 => ?_)))
        refine wpAny_execs_nil (wpAny_execs_cons (wpAny_Return_some (wpAny_Constant_none ?_)))
        exact fin (hk1 hl) .none M6
end
end Mine.Internal

end
section
open PySem PySem.W PyProof.Rows PySem.Calls
set_option Elab.async false
set_option tactic.hygienic false
set_option maxRecDepth 100000
set_option maxHeartbeats 4000000
set_option linter.all false
set_option genSizeOf false
set_option genInjectivity false
set_option backward.match.sparseCases false
set_option bootstrap.genMatcherCode false
namespace Mine.Internal
variable {KH : World → Frag} [kit : Kit KH]
noncomputable def thePre (KH : World → Frag) [kit : Kit KH] (prog : Program) (w : World) (aw ac : Addr) {mg mb : Str → Option Value} (hb : ∀ x : Str, x ≠ "__name__" → mb x = bootBuiltins x) : Pre where
  prog := prog
  w := w
  cf := 345
  aw := aw
  ac := ac
  K := KH w
  Base := Bs (KH w) mg mb
  keeps := Bs.keeps
  hK := Bs.K
  hlim := Bs.nl
  gl := fun b _ _ e => AllG.find (gl_all (X := ⟨prog, w, 345, aw, ac⟩) b hb) e
  big := fun b => match b.g with | ⟨o, _, _, ho, _⟩ => ⟨_, o, ho, by rfl⟩
  fs := 328
  getm := fun b r e q => getm_K rfl b.K r e q
  fsfn := fun b => match fnAt_inv (fnAt_of (kit.f328 w)) with | .mk q r => ⟨_, _, b.K _ _ q, r⟩
  shp := fun hA b live rx rd hs => shp_K rfl rfl hA b.K b.nl live rx rd hs
  fn := fun _ _ _ _ h => fn_all h
end Mine.Internal

end
section
open PySem PySem.W PyProof.Rows PySem.Calls
set_option Elab.async false
set_option tactic.hygienic false
set_option maxRecDepth 100000
set_option maxHeartbeats 4000000
set_option linter.all false
set_option genSizeOf false
set_option genInjectivity false
set_option backward.match.sparseCases false
set_option bootstrap.genMatcherCode false
namespace Mine.Internal
variable {KH : World → Frag} [kit : Kit KH]
structure LEnv (env : Env) (L cw cm : Addr) : Prop where
  kind : env.scope.kind = .function
  loc : env.locals = L
  glob : env.globals = mainGlobals
  bui : env.builtins = builtinsNs
  names : ∀ x k, lk x nn452.1 = some k → env.kindOf x = some k
  cw : env.cells.lookup nWell = some cw
  cm : env.cells.lookup nMany = some cm
theorem GlobAt.keeps {h h' : Heap} {x : Str} {v : Value} (k : h.StaysIn h') : GlobAt h x v → GlobAt h' x v
  | .inl ⟨mg, a, b⟩ => .inl ⟨mg, a.keeps k, b⟩
  | .inr ⟨mg, mb, a, b, c, d⟩ => .inr ⟨mg, mb, a.keeps k, b, c.keeps k, d⟩
section
variable {prog : Program} {w : World} {A : Around} {s : Shared} {env : Env} {x : Str} {p : Pos} {v : Value} {Z : Value → Shared → Prop} {L cw cm : Addr}
theorem lw_glob {E : Value → Shared → Prop} (hk : env.scope.kind = .function) (hl : env.kindOf x = some .globalImplicit) (hg : env.globals = mainGlobals) (hb : env.builtins = builtinsNs) (hd : (x == ("__debug__" : Str)) = false) (g : GlobAt s.heap x v) (h : Z v s) :
    wpAny (model prog w) A (eval (.Name x p) env) Z E s := by
  refine Name_function_global hk hl ?_ hd
  rcases g with ⟨mg, hg', hv⟩ | ⟨mg, mb, hg', hv, hb', hv'⟩
  · exact loadGlobal_global (hg ▸ hg') hv h
  · exact loadGlobal_builtin (hg ▸ hg') hv (hb ▸ hb') hv' h
theorem lw_loc {E : Value → Shared → Prop} {m : Str → Option Value} (e : LEnv env L cw cm) (hk : lk x nn452.1 = some .local) (hd : (x == ("__debug__" : Str)) = false) (hn : s.heap.Ns L m) (hv : m x = some v) (h : Z v s) :
    wpAny (model prog w) A (eval (.Name x p) env) Z E s := wpAny_Name (wpAny_loadName_local e.kind (e.names _ _ hk) (e.loc ▸ hn) hv h) hd
theorem lw_well {E : Value → Shared → Prop} (e : LEnv env L cw cm) (hc : s.heap.IsCell cw (some v)) (h : Z v s) : wpAny (model prog w) A (eval (.Name nWell p) env) Z E s :=
  wpAny_Name (wpAny_loadName_cell e.kind (e.names _ _ rfl) e.cw hc h) rfl
theorem bi_of {X : Wd} {h : Heap} {b : Bi} (g : GlA X h x (.bi b)) : GlobAt h x b.val := by
  cases g with | mk v g r => cases r; exact g
theorem fn_of {X : Wd} {h : Heap} {a : Addr} (g : GlA X h x (.fn a)) : GlobAt h x (.ref a) := by
  cases g with | mk v g r => cases r; exact g
theorem keeps_tok {s' : Shared} (k : Keeps s s') (n : Nat) : Keeps s { s' with toks := n } := by
  obtain ⟨h, t, rfl, k⟩ := k
  exact ⟨h, n, rfl, k⟩
theorem ints_at : ∀ {vs : List Value} {ns : List Int} {k : Nat} {v : Value}, IntsAre vs ns → vs[k]? = some v → ∃ a t, v = .int a t
  | _, _, _, _, .nil, h => nomatch h
  | _, _, 0, _, .cons a t _, h => ⟨a, t, by cases h; rfl⟩
  | _, _, k + 1, _, .cons a t r, h => ints_at (k := k) r h
noncomputable def Fm7 (v y : Value) : Prop := ∃ a t u, v = .int a t ∧ y = .int (a.fmod 2147483647) u
theorem w1 {mg mb m : Str → Option Value} {l : Addr} {vs : List Value} {ns : List Int} {Z : Flow → Shared → Prop} (hA : A.handled = none) (e : LEnv env L cw cm) (B : Bs (KH w) mg mb s.heap) (hb : ∀ x : Str, x ≠ "__name__" → mb x = bootBuiltins x)
    (hn : s.heap.Ns L m) (hm : m nScript = some (.ref l)) (hl : s.heap.IsList l vs.toArray) (hI : IntsAre vs ns) (hlen : vs.length ≤ 63) (hc : s.heap.IsCell cw none)
    (h : ∀ (h' : Heap) (tk : Nat) (aw ac : Addr) (ys : Array Value) (t1 t2 : Tok) (xs : List Value), (∀ b o, b ≠ cw → s.heap.get? b = some o → h'.get? b = some o) → h'.IsCell cw (some (.ref aw)) → h'.IsList aw #[.ref ac, .int 0 t1, .int 1013 t2] → h'.IsList ac ys →
      s.heap.get? aw = none → s.heap.get? ac = none → aw ≠ ac → Paired Fm7 xs ys.toList → xs.length ≤ 63 → wpAny (model prog w) A (execs (nb452.1.drop 1) env) Z NoE { s with heap := h', toks := tk }) :
    wpAny (model prog w) A (execs nb452.1 env) Z NoE s := by
  obtain ⟨hh, g, d, tk0, os⟩ := s
  dsimp only at *
  have gi := bi_of (AllG.find (x := ⟨#[105, 110, 116]⟩) (gl_all (X := ⟨prog, w, 345, 0, 0⟩) B hb) (n := keyOf [105, 110, 116] 1) (d := .bi .int) rfl)
  refine wpAny_execs_cons (wpAny_Assign_Name (List_ (spliced_more ?_)) (by rfl))
  refine wpAny_ListComp_map (fun _ => true) Fm7 hA (by decide) (by decide) rfl (by decide) (by decide) ?_
  refine Subscript_ (lw_loc e (by rfl) (by rfl) hn hm ?_)
  refine wpAny_Slice (wpAny_evalPart_none (wpAny_evalPart_some (wpAny_Constant_int (wpAny_evalPart_none ?_))))
  refine subscriptTail_ops (Heap.IsList.typeIs (hl.push _)) list_getitem_lookup (wpAny_getItem_list_slice (hl.push _) (Heap.IsSliceOf.new ..) .none (.int _ _) .none (by simp) ?_ (by rw [sizeLine_eq, List.size_toArray]; (first | lia | omega))) (by with_unfolding_all rfl) (by intro _; with_unfolding_all rfl)
  dsimp only
  generalize hS : Heap.push hh _ = h1
  have st1 : hh.StaysIn h1 := hS ▸ stays_push _
  have hsz : (slicePick vs.toArray none (some (Int.ofNat 63)) none).size ≤ 63 := Nat.le_trans (slicePick_size_le _ _ _ _) (by rw [List.size_toArray]; exact hlen)
  have hIs := IntsAre.pick hI none (some (Int.ofNat 63)) none
  generalize slicePick vs.toArray none (some (Int.ofNat 63)) none = items at hsz hIs
  have st2 : hh.StaysIn (h1.push { cls := .type "list", data := .seq items }) := fun b o q => stays_push _ _ _ (st1 _ _ q)
  refine ⟨_, items, rfl, ⟨_, Heap.get?_push_size _ rfl, rfl, _, rfl⟩, by rw [sizeLine_eq]; (first | lia | omega), fun C v s2 m2 E' _ _ _ _ => wpAny_pure ⟨rfl, ?_⟩, fun C v s2 m2 E' hv _ hn2 hm2 k2 => ?_, fun D h' tk ys hD hD2 hP k2 => ?_⟩
  · exact ⟨_, _, rfl, fun _ _ q => q⟩
  · obtain ⟨a, t, rfl⟩ : ∃ a t, v = .int a t := by
      obtain ⟨k, hk⟩ := List.getElem?_of_mem (Array.mem_toList_iff.mpr hv)
      exact ints_at hIs hk
    refine wpAny_BinOp (Call_Name1 (lw_glob rfl rfl e.glob e.bui rfl (gi.keeps fun b o q => k2 b o (st2 b o q)) ?_))
    refine PyProof.Rows.callWith_type rfl (evalArgs_plain (spliced_cons (wpAny_Name (wpAny_loadName_local rfl rfl hn2 hm2 (spliced_nil (call_int_int (wpAny_Constant_int (mod_int (by decide) ?_))))))))
    exact ⟨⟨a, t, _, rfl, rfl⟩, ⟨_, _, rfl, fun _ _ q => q⟩⟩
  · have kk : hh.StaysIn h' := fun b o q => k2 b o (st2 b o q)
    have nD : hh.get? D = none := by
      cases q : hh.get? D with
      | none => rfl
      | some o => rw [st2 D o q] at hD; cases hD
    refine spliced_more (wpAny_Constant_int (spliced_more (wpAny_Constant_int (spliced_none ?_))))
    refine wpAny_newObj_type ?_ (show _ ≤ sizeLine by rw [sizeLine_eq]; exact Nat.le_of_ble_eq_true rfl)
    dsimp only
    have dlt : D < h'.objs.size := by obtain ⟨o, ho, _⟩ := hD2; exact Heap.lt_size ho
    have up : h'.StaysIn (h'.push { cls := .type "list", data := .seq [Value.ref D, .int (Int.ofNat 0) tk, .int (Int.ofNat 1013) (tk + 1)].toArray }) := stays_push _
    refine wpAny_storeName_cell e.kind (e.names _ _ rfl) e.cw (v₀ := none) (let ⟨o, ho, hd⟩ := hc; ⟨o, up _ _ (kk _ _ ho), hd⟩) fun h3 hc3 hs3 => ?_
    have isN : ∀ {b : Addr} {o : Obj}, hh.get? b = some o → b < h'.objs.size := fun q => Heap.lt_size (kk _ _ q)
    have up3 : ∀ b o, b ≠ cw → h'.get? b = some o → h3.get? b = some o := fun b o n q => (hs3.2 b n).trans (up b o q)
    have nA : hh.get? h'.objs.size = none := by
      cases q : hh.get? h'.objs.size with
      | none => rfl
      | some o => exact absurd (isN q) (Nat.lt_irrefl _)
    have neD : D ≠ cw := fun q => by rw [q] at nD; obtain ⟨o, ho, _⟩ := hc; rw [nD] at ho; cases ho
    have newc : h'.objs.size ≠ cw := fun q => by rw [q] at nA; obtain ⟨o, ho, _⟩ := hc; rw [nA] at ho; cases ho
    refine h h3 _ h'.objs.size D ys tk (tk + 1) (items.toList.filter fun _ => true) (fun b o n q => up3 b o n (kk b o q)) hc3 ?_ ?_ nA nD (Nat.ne_of_gt dlt) hP ?_
    · exact ⟨_, (hs3.2 _ newc).trans (Heap.get?_push_size _ rfl), rfl, _, rfl⟩
    · obtain ⟨o, ho, r⟩ := hD2; exact ⟨o, up3 _ _ neD ho, r⟩
    · exact Nat.le_trans (List.length_filter_le _ _) (by rw [Array.length_toList]; exact hsz)
end
end Mine.Internal

end
section
open PySem PySem.W PyProof.Rows PySem.Calls
set_option Elab.async false
set_option tactic.hygienic false
set_option maxRecDepth 100000
set_option maxHeartbeats 4000000
set_option linter.all false
set_option backward.match.sparseCases false
set_option bootstrap.genMatcherCode false
namespace Mine.Internal
inductive C3 : D → Sg → Prop
  | mk (V : List Int) {σ : Sg} : AllV V → V.length = 3 → InvS σ → C3 (.lst (V.map D.int)) σ
theorem allV3 {a b c : Int} (h1 : W32 a) (h2 : W32 b) (h3 : W32 c) : AllV [a, b, c] := fun i hi => match i, hi with
  | 0, _ => h1
  | 1, _ => h2
  | 2, _ => h3
noncomputable def c3E : Expr := match (show List Stmt from nb452.1)[1]? with
  | some (Stmt.Assign _ (.Tuple (e :: _) _ _) _) => e
  | _ => .Name ⟨#[]⟩ ⟨0, 0, 0, 0⟩
theorem vc_c3 (σ : Sg) (h : InvS σ) : wpE (gx 14) 60 ⟨nn452.1, [(⟨#[119, 101, 108, 108]⟩, .wel)]⟩ c3E [] σ C3 := by
  repeat' ((first | change @Bool.rec (fun _ => Prop) _ _ _ | change RP _ _ _ _ _ | change CT _ _ _ _ _ | change And _ _ | change WM _ _ _ | change Ok _ _ _ | conv => whnf); first
    | refine CT.lcell rfl (by assumption) (fun v s1 hv hi => ?_)
    | exact C3.mk [_, _, _] (allV3 (by assumption) (by assumption) (by assumption)) rfl (by assumption)
    | refine And.intro (by first | decide | (first | lia | omega)) ?_)
end Mine.Internal

end
section
open PySem PySem.W PyProof.Rows PySem.Calls
set_option Elab.async false
set_option tactic.hygienic false
set_option maxRecDepth 100000
set_option maxHeartbeats 4000000
set_option linter.all false
set_option genSizeOf false
set_option genInjectivity false
set_option backward.match.sparseCases false
set_option bootstrap.genMatcherCode false
namespace Mine.Internal
variable {KH : World → Frag} [kit : Kit KH]
section
variable {C : Cfg} {A : Around} {F : Fm} {hid : List Addr} {ρ : En} {σ : Sg} {s : Shared} {Q : D → Sg → Prop} {n : Nat}
theorem e_compF (hA : AOk A C.g.lvl) {elt : Expr} {gens : List Comprehension} {scope : Scope} {pos : Pos} (h : wpE C.g (n + 1) F.cx (.ListComp elt gens scope pos) ρ σ Q) (f : Fra C F hid ρ σ s) :
    wpAny (model C.prog C.w) A (eval (.ListComp elt gens scope pos) F.env) (fun v s' => PE C F hid ρ Q s v s' ∧ ∃ Dl vs, v = .ref Dl ∧ s.heap.get? Dl = none ∧ s'.heap.PlainList Dl vs) NoE s := by
  cases one1_inv (show one1 gens _ from h) with | @mk c h' =>
  obtain ⟨target, iter, ifs, a⟩ := c
  cases natW_inv h' with | @mk k h'' =>
  cases k with
  | succ k => exact False.elim h''
  | zero =>
    obtain ⟨hc, h⟩ := onlyT_inv h''
    show wpAny (model C.prog C.w) A (comprehension _ _ F.env _ (newList []) false _) _ _ _
    refine e_comp hA (snd_all hA n) hc h f fun Dl Cc s' q => ?_
    cases q with | mk es σ' hq st r sp m hm h1 h2 hn hd hv =>
    refine ⟨m, hm, fun h' hs => ?_⟩
    obtain ⟨a, b, c⟩ := compEndS f.st.live st sp h1 h2 hn hs
    obtain ⟨vs, hv⟩ := hv
    have hne : Dl ≠ Cc := by
      cases r with | lst z t1 t2 =>
      obtain ⟨o, ho, _⟩ := t1
      exact fun e => not_hid ho (e ▸ .head _)
    exact ⟨⟨.lst es, σ', hq, r.keeps c, a, b⟩, Dl, vs, rfl, hd, hv.at fun o x => (hs.2 _ hne).trans x⟩
end
theorem ints_rep {X : Wd} {h h' : Heap} : ∀ {l : List Int} {vs : List Value}, RepL X h vs (l.map D.int) → RepL X h' vs (l.map D.int)
  | [], _, r => by cases r; exact .nil
  | a :: l, _, r => by
    cases r with | cons x y =>
    cases x
    exact .cons (.int _ _) (ints_rep (l := l) y)
theorem well_ints {X : Wd} {h : Heap} : ∀ {xs ys : List Value}, Paired Fm7 xs ys → ∃ l : List Int, RepL X h ys (l.map D.int) ∧ (∀ c ∈ l, 0 ≤ c ∧ c < 2147483647) ∧ l.length = xs.length
  | [], _, r => by cases r; exact ⟨[], .nil, fun _ q => (nomatch q), rfl⟩
  | x :: xs, _, r => by
    cases r with | cons hF ht =>
    obtain ⟨a, t, u, rfl, rfl⟩ := hF
    obtain ⟨l, h1, h2, h3⟩ := well_ints (X := X) (h := h) ht
    refine ⟨a.fmod 2147483647 :: l, .cons (.int _ _) h1, fun c hc => ?_, congrArg (· + 1) h3⟩
    rcases List.mem_cons.mp hc with rfl | hc
    · exact fm_x
    · exact h2 c hc
theorem ne_data {h : Heap} {a b : Addr} {o o' : Obj} (h1 : h.get? a = some o) (h2 : h.get? b = some o') (hd : o.data = o'.data → False) : a ≠ b := fun q => by
  rw [q, h2] at h1; cases h1; exact hd rfl
theorem ne_ln {h : Heap} {a b : Addr} {vs : Array Value} {m : Str → Option Value} (x : h.IsList a vs) (y : h.Ns b m) : a ≠ b := by
  obtain ⟨o, ho, _, n, hd⟩ := x
  obtain ⟨o', es, _, ho', hd', _⟩ := y
  exact ne_data ho ho' fun q => by rw [hd, hd'] at q; cases q
theorem ne_cn {h : Heap} {a b : Addr} {v : Option Value} {m : Str → Option Value} (x : h.IsCell a v) (y : h.Ns b m) : a ≠ b := by
  obtain ⟨o, ho, hd⟩ := x
  obtain ⟨o', es, _, ho', hd', _⟩ := y
  exact ne_data ho ho' fun q => by rw [hd, hd'] at q; cases q
theorem ne_cl {h : Heap} {a b : Addr} {v : Option Value} {vs : Array Value} (x : h.IsCell a v) (y : h.IsList b vs) : a ≠ b := by
  obtain ⟨o, ho, hd⟩ := x
  obtain ⟨o', ho', _, n, hd'⟩ := y
  exact ne_data ho ho' fun q => by rw [hd, hd'] at q; cases q
theorem plain_eq {h : Heap} {a : Addr} {vs vs' : Array Value} (x : h.IsList a vs) (y : h.PlainList a vs') : vs = vs' := by
  obtain ⟨o, ho, _, n, hd⟩ := x
  obtain ⟨n', ho'⟩ := y
  rw [ho'] at ho; cases ho; cases hd; rfl
theorem con_nil {V : List Int} (h : AllV V) (hl : V.length ≤ 9) : Con V [] := ⟨hl, h, fun _ _ q => (nomatch q), fun _ _ q => (nomatch q), fun _ _ q => (nomatch q), fun _ _ q => (nomatch q)⟩
theorem none_of {s0 h : Heap} (old : s0.StaysIn h) {a : Addr} (e : h.get? a = none) : s0.get? a = none := by
  cases q : s0.get? a with
  | none => rfl
  | some o => rw [old _ _ q] at e; cases e
theorem ne_none {h : Heap} {a b : Addr} {o : Obj} (x : h.get? a = some o) (y : h.get? b = none) : a ≠ b := fun q => by rw [q, y] at x; cases x
theorem all6 {P : Addr → Prop} {a b c d e f : Addr} (h1 : P a) (h2 : P b) (h3 : P c) (h4 : P d) (h5 : P e) (h6 : P f) : ∀ x ∈ [a, b, c, d, e, f], P x := fun x q => by
  simp only [List.mem_cons, List.not_mem_nil, or_false] at q
  rcases q with rfl | rfl | rfl | rfl | rfl | rfl <;> assumption
theorem not6 {x a b c d e f : Addr} (h1 : x ≠ a) (h2 : x ≠ b) (h3 : x ≠ c) (h4 : x ≠ d) (h5 : x ≠ e) (h6 : x ≠ f) : x ∉ [a, b, c, d, e, f] := fun q =>
  all6 (P := fun y => x ≠ y) h1 h2 h3 h4 h5 h6 x q rfl
theorem no2 {a b c : Addr} (h1 : a ≠ b) (h2 : a ≠ c) : a ∉ [b, c] := fun q => by
  rcases List.mem_cons.mp q with q | q
  · exact h1 q
  · exact h2 (List.mem_singleton.mp q)
theorem old_hid {s0 h : Heap} (old : s0.StaysIn h) {l : List Addr} (h0 : ∀ a ∈ l, s0.get? a = none) : s0.StaysIn (hideAll h l) := fun b o q =>
  hideAll_get _ (old b o q) fun m => by rw [h0 b m] at q; cases q
inductive KvR (X : Wd) (h : Heap) : List (Int × Value) → Fcs → Prop
  | nil : KvR X h [] []
  | cons {i : Nat} {s : Shp} {v : Value} {r : List (Int × Value)} {F : Fcs} : Rep X h v s.d → KvR X h r F → KvR X h ((Int.ofNat i, v) :: r) ((i, s) :: F)
theorem KvR.keeps {X : Wd} {h h' : Heap} {r : List (Int × Value)} {F : Fcs} (x : KvR X h r F) (k : h.StaysIn h') : KvR X h' r F := by
  induction x with
  | nil => exact .nil
  | cons a _ ih => exact .cons (a.keeps k) ih
structure LI (X : Wd) (s0 : Heap) (L cw cm va dsh : Addr) (ex : List Addr) (V : List Int) (F : Fcs) (σ : Sg) (s : Heap) : Prop where
  old : s0.StaysIn s
  fr : ∃ m, s.Ns L m ∧ m nValues = some (.ref va) ∧ m nShapes = some (.ref dsh)
  hcw : s.IsCell cw (some (.ref X.aw))
  hcm : s.IsCell cm none
  vals : ∃ vs, s.PlainList va vs ∧ RepL X s vs.toList (V.map D.int)
  shp : ∃ kvs : List (Int × Value), s.DictOf (intKind X.prog X.w) dsh kvs ∧ KvR X (hideAll s (va :: X.aw :: L :: cw :: cm :: dsh :: ex)) kvs F
  well : WellAt X (va :: X.aw :: L :: cw :: cm :: dsh :: ex) s σ
  new : ∀ a ∈ va :: X.aw :: L :: cw :: cm :: dsh :: ex, s0.get? a = none
  live : ∀ a ∈ ex, (s.get? a).isSome = true
  xl : ∀ a ∈ ex, a ≠ L ∧ a ≠ cw ∧ a ≠ cm ∧ a ≠ va ∧ a ≠ dsh ∧ a ≠ X.aw
  vac : X.ac ≠ va
  vaw : va ≠ X.aw
  dL : dsh ≠ L
  inv : InvS σ
  dS : (dsh == sysModules) = false
section
variable {prog : Program} {w : World} {A : Around} {s : Shared} {env : Env} {L cw cm aw ac : Addr} {mg mb m : Str → Option Value} {s0 : Heap}
noncomputable abbrev lawPre (KH : World → Frag) [kit : Kit KH] (prog : Program) (w : World) (aw ac : Addr) (mg : Str → Option Value) {mb : Str → Option Value} (hb : ∀ x : Str, x ≠ "__name__" → mb x = bootBuiltins x) : Pre := thePre KH prog w aw ac (mg := mg) hb
noncomputable abbrev lawCfg (KH : World → Frag) [kit : Kit KH] (prog : Program) (w : World) (aw ac : Addr) (mg : Str → Option Value) {mb : Str → Option Value} (hb : ∀ x : Str, x ≠ "__name__" → mb x = bootBuiltins x) : Cfg := mkCfg (lawPre KH prog w aw ac mg hb) 14 (by decide) (calls_all _ 14)
noncomputable abbrev lawFm (env : Env) (L : Addr) (kap : En) : Fm := ⟨⟨nn452.1, kap⟩, env, L⟩
theorem lenv_ok (e : LEnv env L cw cm) (kap : En) : EnvOk (lawFm env L kap) := ⟨e.kind, e.loc, e.glob, e.bui, fun x k h _ => e.names x k h, fun y k hy => by
  rw [← sDebug_is]; exact ne_of_seqb (fnNames_spec (l := nn452.1) (by rfl) y k (lk_mem hy)).1⟩
theorem w2 {hb : ∀ x : Str, x ≠ "__name__" → mb x = bootBuiltins x} {t1 t2 : Tok} {ys : Array Value} {xs : List Value} {Z : Flow → Shared → Prop} (B : Bs (KH w) mg mb s0) (hA : AOk A 14) (e : LEnv env L cw cm) (h0 : ∀ a ∈ [aw, L, cw, cm, ac], s0.get? a = none)
    (old : s0.StaysIn s.heap) (hn : s.heap.Ns L m) (hcw : s.heap.IsCell cw (some (.ref aw))) (hcm : s.heap.IsCell cm none) (haw : s.heap.IsList aw #[.ref ac, .int 0 t1, .int 1013 t2]) (hac : s.heap.IsList ac ys) (hne : aw ≠ ac) (hP : Paired Fm7 xs ys.toList) (hxs : xs.length ≤ 63)
    (h : ∀ (h' : Heap) (tk : Nat) (va dsh : Addr) (V : List Int) (σ : Sg), LI (lawPre KH prog w aw ac mg hb).toWd s0 L cw cm va dsh [] V [] σ h' → AllV V → V.length = 3 → wpAny (model prog w) A (execs (nb452.1.drop 2) env) Z NoE { s with heap := h', toks := tk }) :
    wpAny (model prog w) A (execs (nb452.1.drop 1) env) Z NoE s := by
  obtain ⟨hh, g, d, tk0, os⟩ := s
  dsimp only at *
  let X := (lawPre KH prog w aw ac mg hb).toWd
  let C := lawCfg KH prog w aw ac mg hb
  let F := lawFm env L [(nWell, .wel)]
  have eok := lenv_ok e [(nWell, .wel)]
  obtain ⟨l, hl1, hl2, hl3⟩ := well_ints (X := X) (h := hideAll hh [aw, L]) hP
  have naL : aw ≠ L := ne_ln haw hn
  have nacL : ac ≠ L := ne_ln hac hn
  have inv0 : InvS ⟨l, 0, 1013⟩ := ⟨⟨0, rfl⟩, hl2, show (0 : Int) ≤ 1013 ∧ (1013 : Int) < 2147483647 by decide⟩
  have st : St C F [aw, L] [] ⟨l, 0, 1013⟩ hh := by
    refine ⟨B.keeps (old_hid old fun a q => h0 a ?_), fun a q => ?_, ⟨m, hn, fun _ _ q => (nomatch q)⟩, fun _ _ q => (nomatch q), fun x d q => ?_, ?_⟩
    · simp only [List.mem_cons, List.not_mem_nil, or_false] at q ⊢
      rcases q with q | q
      · exact .inl q
      · exact .inr (.inl q)
    · simp only [List.mem_cons, List.not_mem_nil, or_false] at q
      rcases q with rfl | rfl
      · exact lst_live haw
      · exact ns_live hn
    · rcases ne_of_lk (show lk x [(nWell, D.wel)] = some d from q) with ⟨rfl, q⟩ | ⟨_, q⟩
      · cases q
        obtain ⟨oc, hoc, hdc⟩ := id hcw
        exact .mk cw oc (.ref aw) e.cw (.inl (e.names _ _ rfl)) rfl rfl (hideAll_get _ hoc (no2 (ne_cl hcw haw) (ne_cn hcw hn))) hdc .wel
      · cases q
    · have hz := RepL.length hl1
      rw [Array.length_toList, List.length_map] at hz
      obtain ⟨oa, hoa, r⟩ := hac
      exact .mk t1 t2 haw (.lst (by (first | lia | omega)) ⟨oa, hideAll_get _ hoa (no2 (Ne.symm hne) nacL), r⟩ hl1)
  have f : Fra C F [aw, L] [] ⟨l, 0, 1013⟩ ⟨hh, g, d, tk0, os⟩ := ⟨eok, .head _, .tail _ (.head _), naL, st⟩
  refine wpAny_execs_cons (Assign_Tuple_swapped (names := [nValues, nShapes]) ?_ swapsWith_tup (swp_spec (F := F) eok (by rfl) (by rfl)).1)
  refine Tuple_ (spliced_more (wpAny_mono (e_compF (C := C) (F := F) (n := 59) hA (vc_c3 ⟨l, 0, 1013⟩ inv0) f) (fun v s1 q => ?_) fun _ _ x => x))
  obtain ⟨q, va, vs, rfl, hva, hvs⟩ := q
  cases q with | mk d1 σ1 hq r st1 sp1 =>
  cases hq with | mk V hV hV3 hi1 =>
  cases r with | lst z t1 r1 =>
  cases plain_eq (isList_keeps t1 (stays_out _)) hvs
  obtain ⟨h1, g1, d1, tk1, os1⟩ := s1
  have sm := sp1.same
  cases sm
  dsimp only at *
  refine spliced_more (wpAny_Dict_empty (spliced_none ?_))
  refine wpAny_newObj_type ?_ (show _ ≤ sizeLine by rw [sizeLine_eq]; exact Nat.le_of_ble_eq_true rfl)
  dsimp only
  cases st1.loc with | mk m1 hn1 _ =>
  have hn1 : h1.Ns L m1 := hn1
  refine unpackItems_tuple (items := #[.ref va, .ref h1.objs.size]) hA.handled ⟨_, Heap.get?_push_size _ rfl, rfl, _, rfl⟩ fun h4 ext => ?_
  have up : h1.StaysIn h4 := fun b o q => ext b o (Nat.ne_of_lt (Heap.lt_size (stays_push _ _ _ (stays_push _ _ _ q)))) (stays_push _ _ _ (stays_push _ _ _ q))
  have dlt : h1.objs.size ≠ L := by obtain ⟨_, _, _, ho, _⟩ := hn1; exact Ne.symm (Nat.ne_of_lt (Heap.lt_size ho))
  have d4 : h4.get? h1.objs.size = some { cls := .type "dict", data := .dict #[] } := ext _ _ (Nat.ne_of_lt (Heap.lt_size (stays_push _ _ _ (Heap.get?_push_size _ rfl)))) (stays_push _ _ _ (Heap.get?_push_size _ rfl))
  show wpAny _ _ (do holding [Value.ref va] (bindName env nShapes (.ref h1.objs.size)); (do holding [] (bindName env nValues (.ref va)); pure ())) _ _ _
  refine wpAny_bind (wpAny_holding (wpAny_bindName (wpAny_storeName_local (e.names _ _ rfl) (e.loc ▸ hn1.keeps up) (fun h5 hn5 hs5 => ?_) (by rw [e.kind]; rfl))))
  refine wpAny_bind (wpAny_holding (wpAny_bindName (wpAny_storeName_local (e.names _ _ rfl) hn5 (fun h6 hn6 hs6 => wpAny_pure ?_) (by rw [e.kind]; rfl))))
  have upL : ∀ b o, b ≠ L → h1.get? b = some o → h6.get? b = some o := fun b o n q => (hs6.2 b (e.loc ▸ n)).trans ((hs5.2 b (e.loc ▸ n)).trans (up b o q))
  have up0 : ∀ b o, b ∉ [aw, L] → hh.get? b = some o → h6.get? b = some o := fun b o n q => upL b o (fun z => n (z ▸ .tail _ (.head _))) (sp1.keep b o n q)
  have old1 : s0.StaysIn h1 := fun b o q => sp1.keep b o (no2 (ne_none q (h0 _ (.head _))) (ne_none q (h0 _ (.tail _ (.head _))))) (old b o q)
  have d1n : h1.get? h1.objs.size = none := Heap.get?_none_of_le (Nat.le_refl _)
  refine h h6 _ va h1.objs.size V σ1 ⟨fun b o q => upL b o (ne_none q (h0 _ (.tail _ (.head _)))) (old1 b o q), ?_, ?_, ?_, ?_, ?_, ?_, ?_, fun _ q => (nomatch q), fun _ q => (nomatch q), ?_, ?_, dlt, hi1, ?_⟩ hV hV3
  · exact ⟨_, e.loc ▸ hn6, rfl, rfl⟩
  · obtain ⟨o, ho, hd⟩ := id hcw
    exact ⟨o, up0 _ _ (no2 (ne_cl hcw haw) (ne_cn hcw hn)) ho, hd⟩
  · obtain ⟨o, ho, hd⟩ := id hcm
    exact ⟨o, up0 _ _ (no2 (ne_cl hcm haw) (ne_cn hcm hn)) ho, hd⟩
  · exact ⟨vs, hvs.at fun o q => upL va o (ne_ln hvs.isList hn1) q, ints_rep r1⟩
  · exact ⟨[], (Heap.DictOf.new h1).at fun o q => (hs6.2 _ (e.loc ▸ dlt)).trans ((hs5.2 _ (e.loc ▸ dlt)).trans (by rw [d4]; rw [Heap.get?_push_size _ rfl] at q; exact q)), .nil⟩
  · cases st1.well with | mk ta tb hla hra =>
    obtain ⟨oa, hoa, ra⟩ := hla
    cases hra with | lst z2 t3 r3 =>
    obtain ⟨oc, hoc, rc⟩ := t3
    have hoc' := of_hideAll _ hoc
    obtain ⟨oac, hoac, _⟩ := id hac
    refine .mk ta tb ⟨oa, upL _ _ naL hoa, ra⟩ (.lst z2 ⟨oc, hideAll_get _ (upL _ _ nacL hoc') (not6 (ne_none hoac hva) (Ne.symm hne) nacL (Ne.symm (ne_cl hcw hac)) (Ne.symm (ne_cl hcm hac)) (ne_none hoc' d1n)), rc⟩ (ints_rep r3))
  · exact all6 (none_of old hva) (h0 _ (.head _)) (h0 _ (.tail _ (.head _))) (h0 _ (.tail _ (.tail _ (.head _)))) (h0 _ (.tail _ (.tail _ (.tail _ (.head _))))) (none_of old1 d1n)
  · obtain ⟨oac, hoac, _⟩ := id hac
    exact ne_none hoac hva
  · obtain ⟨oaw, hoaw, _⟩ := id haw
    exact Ne.symm (ne_none hoaw hva)
  · obtain ⟨o, _, _, ho, _⟩ := B.g
    have := Heap.lt_size (old1 _ _ ho)
    exact beq_false_of_ne (Ne.symm (Nat.ne_of_lt (Nat.lt_of_le_of_lt (by decide) this)))
end
end Mine.Internal

end
section
open PySem PySem.W PyProof.Rows PySem.Calls
set_option Elab.async false
set_option tactic.hygienic false
set_option maxRecDepth 100000
set_option maxHeartbeats 4000000
set_option linter.all false
set_option genSizeOf false
set_option genInjectivity false
set_option backward.match.sparseCases false
set_option bootstrap.genMatcherCode false
namespace Mine.Internal
theorem ne_ml {prog : Program} {w : World} {h : Heap} {a b : Addr} {f : List (Int × Value)} {vs : Array Value} (x : h.DictOf (intKind prog w) a f) (y : h.IsList b vs) : a ≠ b := by
  obtain ⟨o, es, ep, ho, _, hd, _⟩ := x
  obtain ⟨o', ho', _, n, hd'⟩ := y
  exact ne_data ho ho' fun q => by rw [hd, hd'] at q; cases q
theorem ne_mc {prog : Program} {w : World} {h : Heap} {a b : Addr} {f : List (Int × Value)} {v : Option Value} (x : h.DictOf (intKind prog w) a f) (y : h.IsCell b v) : a ≠ b := by
  obtain ⟨o, es, ep, ho, _, hd, _⟩ := x
  obtain ⟨o', ho', hd'⟩ := y
  exact ne_data ho ho' fun q => by rw [hd, hd'] at q; cases q
section
variable {X : Wd} {s0 h h' : Heap} {L cw cm va dsh : Addr} {ex : List Addr} {V : List Int} {F : Fcs} {σ σ' : Sg}
structure LN (X : Wd) (L cw cm va dsh : Addr) : Prop where
  awL : X.aw ≠ L
  awc : cw ≠ X.aw
  awm : cm ≠ X.aw
  cL : cw ≠ L
  mL : cm ≠ L
  cva : cw ≠ va
  mva : cm ≠ va
  vL : va ≠ L
  dva : dsh ≠ va
  daw : dsh ≠ X.aw
  dc : dsh ≠ cw
  dm : dsh ≠ cm
  acL : X.ac ≠ L
theorem LI.ln (x : LI X s0 L cw cm va dsh ex V F σ h) : LN X L cw cm va dsh := by
  obtain ⟨m, hn, _⟩ := x.fr
  obtain ⟨vs, hv, _⟩ := x.vals
  obtain ⟨f, hm, _⟩ := x.shp
  cases x.well with | mk t1 t2 hl hr =>
  cases hr with | lst z t3 r3 =>
  have t4 := isList_keeps t3 (stays_out _)
  exact ⟨ne_ln hl hn, ne_cl x.hcw hl, ne_cl x.hcm hl, ne_cn x.hcw hn, ne_cn x.hcm hn, ne_cl x.hcw hv.isList, ne_cl x.hcm hv.isList, ne_ln hv.isList hn, ne_ml hm hv.isList, ne_ml hm hl, ne_mc hm x.hcw, ne_mc hm x.hcm, ne_ln t4 hn⟩
theorem LI.size (x : LI X s0 L cw cm va dsh ex V F σ h) {vs : Array Value} (hv : h.PlainList va vs) : vs.size = V.length := by
  obtain ⟨vs', hv', r⟩ := x.vals
  cases plain_eq hv'.isList hv
  have := RepL.length r
  rwa [Array.length_toList, List.length_map] at this
noncomputable abbrev hidV (X : Wd) (L cw cm va dsh : Addr) (ex : List Addr) : List Addr := va :: X.aw :: L :: cw :: cm :: dsh :: ex
noncomputable abbrev hidC (X : Wd) (L cw cm dsh : Addr) (ex : List Addr) : List Addr := X.aw :: L :: cw :: cm :: dsh :: ex
theorem hid_one {a : Addr} {l : List Addr} (ha : a ∈ l) (k : ∀ b o, b ≠ a → h.get? b = some o → h'.get? b = some o) : (hideAll h l).StaysIn (hideAll h' l) := fun b o q =>
  hideAll_get _ (k b o (fun z => not_hid q (z ▸ ha)) (of_hideAll _ q)) (not_hid q)
theorem well_but {hid : List Addr} (x : WellAt X hid h σ) (fz : (hideAll h hid).StaysIn (hideAll h' hid)) (ka : ∀ o, h.get? X.aw = some o → h'.get? X.aw = some o) : WellAt X hid h' σ := x.move fz ka
theorem LI.grow (x : LI X s0 L cw cm va dsh ex V F σ h) (st : h.StaysIn h') : LI X s0 L cw cm va dsh ex V F σ h' := by
  obtain ⟨m, hn, a, b⟩ := x.fr
  obtain ⟨vs, hv, rv⟩ := x.vals
  obtain ⟨f, hm, h3⟩ := x.shp
  have fz := stays_hid (hidV X L cw cm va dsh ex) st
  exact ⟨fun b o q => st _ _ (x.old b o q), ⟨m, hn.keeps st, a, b⟩, let ⟨o, ho, hd⟩ := x.hcw; ⟨o, st _ _ ho, hd⟩, let ⟨o, ho, hd⟩ := x.hcm; ⟨o, st _ _ ho, hd⟩, ⟨vs, hv.at (st _), ints_rep rv⟩, ⟨f, hm.at (st _), h3.keeps fz⟩,
    x.well.move fz (st _), x.new, live_stays x.live st, x.xl, x.vac, x.vaw, x.dL, x.inv, x.dS⟩
theorem LI.add {a : Addr} (x : LI X s0 L cw cm va dsh ex V F σ h) (st : h.StaysIn h') (n : h.get? a = none) (l : (h'.get? a).isSome = true) : LI X s0 L cw cm va dsh (ex ++ [a]) V F σ h' := by
  have y := x.grow st
  obtain ⟨m, hn, _⟩ := x.fr
  obtain ⟨vs, hv, rv⟩ := x.vals
  obtain ⟨f, hm, h3⟩ := x.shp
  have fz : (hideAll h (hidV X L cw cm va dsh ex)).StaysIn (hideAll h' (hidV X L cw cm va dsh (ex ++ [a]))) := fun b o q => hideAll_get _ (st _ _ (of_hideAll _ q)) fun z => by
    rcases List.mem_append.mp (show b ∈ (hidV X L cw cm va dsh ex) ++ [a] from z) with z | z
    · exact not_hid q z
    · exact ne_none (of_hideAll _ q) n (List.mem_singleton.mp z)
  obtain ⟨_, _, _, hL, _⟩ := hn
  obtain ⟨_, hc, _⟩ := x.hcw
  obtain ⟨_, hc', _⟩ := x.hcm
  obtain ⟨_, hv2⟩ := hv
  obtain ⟨_, _, _, hd, _⟩ := id hm
  refine ⟨y.old, y.fr, y.hcw, y.hcm, y.vals, ⟨f, hm.at (st _), h3.keeps fz⟩, x.well.move fz (st _), fun b q => ?_, fun b q => ?_, fun b q => ?_, x.vac, x.vaw, x.dL, x.inv, x.dS⟩
  · rcases List.mem_append.mp (show b ∈ (hidV X L cw cm va dsh ex) ++ [a] from q) with q | q
    · exact x.new b q
    · rw [List.mem_singleton.mp q]; exact none_of x.old n
  · rcases List.mem_append.mp q with q | q
    · exact y.live b q
    · rw [List.mem_singleton.mp q]; exact l
  · rcases List.mem_append.mp q with q | q
    · exact x.xl b q
    · rw [List.mem_singleton.mp q]
      obtain ⟨oa, hoa, _⟩ : ∃ o, h.get? X.aw = some o ∧ True := by
        cases x.well with | mk t1 t2 hl _ => obtain ⟨o, ho, _⟩ := hl; exact ⟨o, ho, trivial⟩
      exact ⟨Ne.symm (ne_none hL n), Ne.symm (ne_none hc n), Ne.symm (ne_none hc' n), Ne.symm (ne_none hv2 n), Ne.symm (ne_none hd n), Ne.symm (ne_none hoa n)⟩
theorem LI.it {a : Addr} (x : LI X s0 L cw cm va dsh ex V F σ h) (ha : a ∈ ex) (k : ∀ b o, b ≠ a → h.get? b = some o → h'.get? b = some o) (l : (h'.get? a).isSome = true) : LI X s0 L cw cm va dsh ex V F σ h' := by
  obtain ⟨m, hn, e1, e2⟩ := x.fr
  obtain ⟨vs, hv, rv⟩ := x.vals
  obtain ⟨f, hm, h3⟩ := x.shp
  obtain ⟨n1, n2, n3, n4, n5, n6⟩ := x.xl a ha
  have hav : a ∈ hidV X L cw cm va dsh ex := .tail _ (.tail _ (.tail _ (.tail _ (.tail _ (.tail _ ha)))))
  have fz := hid_one hav k
  refine ⟨fun b o q => k b o (ne_none q (x.new a hav)) (x.old b o q), ⟨m, hn.at fun o => k _ o (Ne.symm n1), e1, e2⟩, let ⟨o, ho, hd⟩ := x.hcw; ⟨o, k _ _ (Ne.symm n2) ho, hd⟩, let ⟨o, ho, hd⟩ := x.hcm; ⟨o, k _ _ (Ne.symm n3) ho, hd⟩, ⟨vs, hv.at fun o => k _ o (Ne.symm n4), ints_rep rv⟩,
    ⟨f, (let ⟨o, es, ep, ho, r⟩ := hm; ⟨o, es, ep, k _ _ (Ne.symm n5) ho, r⟩), h3.keeps fz⟩, x.well.move fz fun o => k _ o (Ne.symm n6), x.new, fun b q => ?_, x.xl, x.vac, x.vaw, x.dL, x.inv, x.dS⟩
  by_cases z : b = a
  · rw [z]; exact l
  · exact live_keep (wr := [a]) (fun b o n => k b o fun q => n (List.mem_singleton.mpr q)) (fun q => z (List.mem_singleton.mp q)) (x.live b q)
theorem LI.setL {m : Str → Option Value} (x : LI X s0 L cw cm va dsh ex V F σ h) (hs : Heap.SameBut L h h') (hn : h'.Ns L m) (e1 : m nValues = some (.ref va)) (e2 : m nShapes = some (.ref dsh)) : LI X s0 L cw cm va dsh ex V F σ h' := by
  obtain ⟨vs, hv, rv⟩ := x.vals
  obtain ⟨f, hm, h3⟩ := x.shp
  have N := x.ln
  have k : ∀ b o, b ≠ L → h.get? b = some o → h'.get? b = some o := fun b o n q => (hs.2 b n).trans q
  have hav : L ∈ hidV X L cw cm va dsh ex := .tail _ (.tail _ (.head _))
  have fz := hid_one hav k
  refine ⟨fun b o q => k b o (ne_none q (x.new L hav)) (x.old b o q), ⟨m, hn, e1, e2⟩, let ⟨o, ho, hd⟩ := x.hcw; ⟨o, k _ _ N.cL ho, hd⟩, let ⟨o, ho, hd⟩ := x.hcm; ⟨o, k _ _ N.mL ho, hd⟩, ⟨vs, hv.at fun o => k _ o N.vL, ints_rep rv⟩,
    ⟨f, (let ⟨o, es, ep, ho, r⟩ := hm; ⟨o, es, ep, k _ _ x.dL ho, r⟩), h3.keeps fz⟩, x.well.move fz fun o => k _ o N.awL, x.new, fun b q => ?_, x.xl, x.vac, x.vaw, x.dL, x.inv, x.dS⟩
  rw [hs.2 b (x.xl b q).1]; exact x.live b q
theorem LI.call (x : LI X s0 L cw cm va dsh ex V F σ h) (k : Keep [X.aw] h h') (wl : WellAt X (hidC X L cw cm dsh ex) h' σ') (inv : InvS σ') : LI X s0 L cw cm va dsh ex V F σ' h' := by
  obtain ⟨m, hn, e1, e2⟩ := x.fr
  obtain ⟨vs, hv, rv⟩ := x.vals
  obtain ⟨f, hm, h3⟩ := x.shp
  have N := x.ln
  have k : ∀ b o, b ≠ X.aw → h.get? b = some o → h'.get? b = some o := fun b o n q => k b o (fun z => n (List.mem_singleton.mp z)) q
  have hav : X.aw ∈ hidV X L cw cm va dsh ex := .tail _ (.head _)
  have fz := hid_one hav k
  refine ⟨fun b o q => k b o (ne_none q (x.new _ hav)) (x.old b o q), ⟨m, hn.at fun o => k _ o (Ne.symm N.awL), e1, e2⟩, let ⟨o, ho, hd⟩ := x.hcw; ⟨o, k _ _ N.awc ho, hd⟩, let ⟨o, ho, hd⟩ := x.hcm; ⟨o, k _ _ N.awm ho, hd⟩, ⟨vs, hv.at fun o => k _ o x.vaw, ints_rep rv⟩,
    ⟨f, (let ⟨o, es, ep, ho, r⟩ := hm; ⟨o, es, ep, k _ _ N.daw ho, r⟩), h3.keeps fz⟩, ?_, x.new, fun b q => ?_, x.xl, x.vac, x.vaw, x.dL, inv, x.dS⟩
  · cases wl with | mk t1 t2 hl hr =>
    cases hr with | lst z t3 r3 =>
    obtain ⟨o, ho, r⟩ := t3
    refine .mk t1 t2 hl (.lst z ⟨o, hideAll_get _ (of_hideAll _ ho) (fun q => ?_), r⟩ (ints_rep r3))
    rcases List.mem_cons.mp q with q | q
    · exact x.vac q
    · exact not_hid ho q
  · exact live_keep (wr := [X.aw]) (fun b o n => k b o fun q => n (List.mem_singleton.mpr q)) (fun z => (x.xl b q).2.2.2.2.2 (List.mem_singleton.mp z)) (x.live b q)
theorem LI.callWell (x : LI X s0 L cw cm va dsh ex V F σ h) : WellAt X (hidC X L cw cm dsh ex) h σ := x.well.move (hideAll_sub h fun a q => .tail _ q) fun _ q => q
theorem LI.callLive (x : LI X s0 L cw cm va dsh ex V F σ h) : Live (hidC X L cw cm dsh ex) h := fun a q => by
  obtain ⟨m, hn, _⟩ := x.fr
  obtain ⟨f, hm, _⟩ := x.shp
  rcases List.mem_cons.mp q with rfl | q
  · exact well_live x.well
  rcases List.mem_cons.mp q with rfl | q
  · exact ns_live hn
  rcases List.mem_cons.mp q with rfl | q
  · obtain ⟨o, ho, _⟩ := x.hcw; exact some_live ho
  rcases List.mem_cons.mp q with rfl | q
  · obtain ⟨o, ho, _⟩ := x.hcm; exact some_live ho
  rcases List.mem_cons.mp q with rfl | q
  · obtain ⟨o, es, ep, ho, _⟩ := hm; exact some_live ho
  · exact x.live a q
theorem LI.callBase {mg mb : Str → Option Value} {K : Frag} (x : LI X s0 L cw cm va dsh ex V F σ h) (B : Bs K mg mb s0) : Bs K mg mb (hideAll h (hidC X L cw cm dsh ex)) := B.keeps (old_hid x.old fun a q => x.new a (.tail _ q))
end
end Mine.Internal

end
section
open PySem PySem.W PyProof.Rows PySem.Calls
set_option Elab.async false
set_option tactic.hygienic false
set_option maxRecDepth 100000
set_option maxHeartbeats 4000000
set_option linter.all false
set_option genSizeOf false
set_option genInjectivity false
set_option backward.match.sparseCases false
set_option bootstrap.genMatcherCode false
namespace Mine.Internal
noncomputable def headInt : List D → Bool
  | .int _ :: _ => true
  | _ => false
mutual
noncomputable def nv : D → Bool
  | .tup l => nvs l
  | .lst l => !headInt l && nvs l
  | .dct _ => false
  | .fac _ => false
  | .fn _ => false
  | _ => true
noncomputable def nvs : List D → Bool
  | [] => true
  | d :: ds => nv d && nvs ds
end
theorem nv_opd (a : Opd) : nv a.d = true := by cases a <;> rfl
theorem nv_shp (s : Shp) : nv s.d = true := by
  cases s with
  | two o a b => cases a <;> cases b <;> rfl
  | one o a => cases a <;> rfl
  | load w g => rfl
  | name y off => rfl
  | const a => cases a <;> rfl
  | copy a => cases a <;> rfl
section
variable {X : Wd} {h : Heap} {l : List Addr} {va : Addr} {vs : Array Value} {a0 : Int} {t0 : Tok} {r0 : List Value}
theorem no_int {d : D} (r : Rp X h d (.int a0 t0)) (n : headInt [d] = false) : False := by
  cases d with
  | int i => cases n
  | none => cases r
  | bool b => cases r
  | str s => cases r
  | tup l => cases r
  | lst l => cases r
  | dct l => cases r
  | fac l => cases r
  | wel => cases r
  | fn a => cases r
  | bi b => cases b <;> cases r
section
variable (hva : h.PlainList va vs) (h0 : vs.toList = .int a0 t0 :: r0)
include hva h0
mutual
theorem hide_rep : ∀ (d : D) {v : Value}, nv d = true → Rp X (hideAll h l) d v → Rp X (hideAll h (va :: l)) d v
  | .none, _, _, r => r
  | .bool _, _, _, r => r
  | .int _, _, _, r => r
  | .str _, _, _, r => r
  | .wel, _, _, r => r
  | .bi _, _, _, r => r
  | .tup ds, _, n, r => by
    cases r with | tup z t p =>
    obtain ⟨o, ho, hc, k, hd⟩ := t
    refine .tup z ⟨o, hideAll_get _ (of_hideAll _ ho) (fun q => ?_), hc, k, hd⟩ (hide_repL ds n p)
    rcases List.mem_cons.mp q with q | q
    · obtain ⟨k', hv⟩ := hva
      rw [← q, of_hideAll _ ho] at hv; cases hv; exact absurd (Value.type.inj hc) (by decide)
    · exact not_hid ho q
  | .lst ds, _, n, r => by
    obtain ⟨n1, n2⟩ := Bool.and_eq_true_iff.mp (show (!headInt ds && nvs ds) = true from n)
    cases r with | lst z t p =>
    obtain ⟨o, ho, hc, k, hd⟩ := t
    refine .lst z ⟨o, hideAll_get _ (of_hideAll _ ho) (fun q => ?_), hc, k, hd⟩ (hide_repL ds n2 p)
    rcases List.mem_cons.mp q with q | q
    · obtain ⟨k', hv⟩ := hva
      rw [← q, of_hideAll _ ho] at hv; cases hv
      cases hd
      rw [h0] at p
      cases ds with
      | nil => cases p
      | cons d ds =>
        cases p with | cons p1 p2 =>
        refine no_int p1 ?_
        have n1 := not_t n1
        cases d <;> first | rfl | exact n1
    · exact not_hid ho q
  | .dct _, _, n, _ => nomatch n
  | .fac _, _, n, _ => nomatch n
  | .fn _, _, n, _ => nomatch n
theorem hide_repL : ∀ (ds : List D) {v : List Value}, nvs ds = true → RpL X (hideAll h l) ds v → RpL X (hideAll h (va :: l)) ds v
  | [], _, _, r => r
  | d :: ds, _, n, r => by
    obtain ⟨n1, n2⟩ := Bool.and_eq_true_iff.mp (show (nv d && nvs ds) = true from n)
    cases r with | cons a b => exact .cons (hide_rep d n1 a) (hide_repL ds n2 b)
end
end
end
theorem KvR.stored {X : Wd} {h : Heap} {r : List (Int × Value)} {F : Fcs} (x : KvR X h r F) {i : Nat} {u : Value} {s : Shp} (hi : look i F = none) (ru : Rep X h u s.d) : PySem.stored r (Int.ofNat i) u = r ++ [(Int.ofNat i, u)] ∧ KvR X h (r ++ [(Int.ofNat i, u)]) (F ++ [(i, s)]) := by
  have : (r.any fun kv => kv.1 = Int.ofNat i) = false ∧ KvR X h (r ++ [(Int.ofNat i, u)]) (F ++ [(i, s)]) := by
    induction x with
    | nil => exact ⟨rfl, .cons ru .nil⟩
    | @cons j s' v r F a b ih =>
      have hi : (if i = j then some s' else look i F) = none := hi
      by_cases e : i = j
      · rw [if_pos e] at hi; cases hi
      · rw [if_neg e] at hi
        obtain ⟨p, q⟩ := ih hi
        refine ⟨?_, .cons a q⟩
        rw [List.any_cons, p, Bool.or_false]
        exact decide_eq_false fun z => e (Int.ofNat.inj z).symm
  refine ⟨?_, this.2⟩
  unfold PySem.stored
  rw [this.1]; rfl
section
variable {X : Wd} {s0 h h' : Heap} {L cw cm va dsh : Addr} {ex : List Addr} {V : List Int} {F : Fcs} {σ σ' : Sg}
theorem LI.setD {kvs : List (Int × Value)} {i : Nat} {u : Value} {s : Shp} (x : LI X s0 L cw cm va dsh ex V F σ h) (kv : KvR X (hideAll h (hidV X L cw cm va dsh ex)) kvs F)
    (hs : Heap.SameBut dsh h h') (hm' : h'.DictOf (intKind X.prog X.w) dsh (PySem.stored kvs (Int.ofNat i) u)) (hi : look i F = none) (ru : Rep X (hideAll h (hidV X L cw cm va dsh ex)) u s.d) : LI X s0 L cw cm va dsh ex V (F ++ [(i, s)]) σ h' := by
  obtain ⟨m, hn, e1, e2⟩ := x.fr
  obtain ⟨vs, hv, rv⟩ := x.vals
  have N := x.ln
  have k : ∀ b o, b ≠ dsh → h.get? b = some o → h'.get? b = some o := fun b o n q => (hs.2 b n).trans q
  have hav : dsh ∈ hidV X L cw cm va dsh ex := .tail _ (.tail _ (.tail _ (.tail _ (.tail _ (.head _)))))
  have fz := hid_one hav k
  obtain ⟨q1, q2⟩ := kv.stored hi ru
  refine ⟨fun b o q => k b o (ne_none q (x.new _ hav)) (x.old b o q), ⟨m, hn.at fun o => k _ o (Ne.symm x.dL), e1, e2⟩, let ⟨o, ho, hd⟩ := x.hcw; ⟨o, k _ _ (Ne.symm N.dc) ho, hd⟩, let ⟨o, ho, hd⟩ := x.hcm; ⟨o, k _ _ (Ne.symm N.dm) ho, hd⟩, ⟨vs, hv.at fun o => k _ o (Ne.symm N.dva), ints_rep rv⟩,
    ⟨_, q1 ▸ hm', q2.keeps fz⟩, x.well.move fz fun o => k _ o (Ne.symm N.daw), x.new, fun b q => ?_, x.xl, x.vac, x.vaw, x.dL, x.inv, x.dS⟩
  rw [hs.2 b (x.xl b q).2.2.2.2.1]; exact x.live b q
theorem LI.app {vs : Array Value} {v : Int} {t : Tok} (x : LI X s0 L cw cm va dsh ex V F σ h) (hv : h.PlainList va vs) (hs : Heap.SameBut va h h') (hv' : h'.PlainList va (vs.push (.int v t))) : LI X s0 L cw cm va dsh ex (V ++ [v]) F σ h' := by
  obtain ⟨m, hn, e1, e2⟩ := x.fr
  obtain ⟨vs', hv1, rv⟩ := x.vals
  cases plain_eq hv1.isList hv
  obtain ⟨f, hm, h3⟩ := x.shp
  have N := x.ln
  have k : ∀ b o, b ≠ va → h.get? b = some o → h'.get? b = some o := fun b o n q => (hs.2 b n).trans q
  have hav : va ∈ hidV X L cw cm va dsh ex := .head _
  have fz := hid_one hav k
  refine ⟨fun b o q => k b o (ne_none q (x.new _ hav)) (x.old b o q), ⟨m, hn.at fun o => k _ o (Ne.symm N.vL), e1, e2⟩, let ⟨o, ho, hd⟩ := x.hcw; ⟨o, k _ _ N.cva ho, hd⟩, let ⟨o, ho, hd⟩ := x.hcm; ⟨o, k _ _ N.mva ho, hd⟩, ⟨_, hv', ?_⟩,
    ⟨f, hm.at fun o => k _ o N.dva, h3.keeps fz⟩, x.well.move fz fun o => k _ o (Ne.symm x.vaw), x.new, fun b q => ?_, x.xl, x.vac, x.vaw, x.dL, x.inv, x.dS⟩
  · rw [Array.toList_push, List.map_append]
    exact RepL.append (ints_rep rv) (.cons (.int _ _) .nil)
  · rw [hs.2 b (x.xl b q).2.2.2.1]; exact x.live b q
end
theorem LI.out {X : Wd} {s0 h h' : Heap} {L cw cm va dsh I : Addr} {V : List Int} {F : Fcs} {σ : Sg} (x : LI X s0 L cw cm va dsh [I] V F σ h) (k : ∀ b o, b ≠ I → h.get? b = some o → h'.get? b = some o) : LI X s0 L cw cm va dsh [] V F σ h' := by
  obtain ⟨m, hn, e1, e2⟩ := x.fr
  obtain ⟨vs, hv, rv⟩ := x.vals
  obtain ⟨f, hm, h3⟩ := x.shp
  obtain ⟨n1, n2, n3, n4, n5, n6⟩ := x.xl I (.head _)
  have hav : I ∈ hidV X L cw cm va dsh [I] := .tail _ (.tail _ (.tail _ (.tail _ (.tail _ (.tail _ (.head _))))))
  have fz : (hideAll h (hidV X L cw cm va dsh [I])).StaysIn (hideAll h' (hidV X L cw cm va dsh [])) := fun b o q =>
    hideAll_get _ (k b o (fun z => not_hid q (z ▸ hav)) (of_hideAll _ q)) fun z => not_hid q (List.mem_append_left [I] z)
  exact ⟨fun b o q => k b o (ne_none q (x.new I hav)) (x.old b o q), ⟨m, hn.at fun o => k _ o (Ne.symm n1), e1, e2⟩, let ⟨o, ho, hd⟩ := x.hcw; ⟨o, k _ _ (Ne.symm n2) ho, hd⟩, let ⟨o, ho, hd⟩ := x.hcm; ⟨o, k _ _ (Ne.symm n3) ho, hd⟩, ⟨vs, hv.at fun o => k _ o (Ne.symm n4), ints_rep rv⟩,
    ⟨f, hm.at fun o => k _ o (Ne.symm n5), h3.keeps fz⟩, x.well.move fz fun o => k _ o (Ne.symm n6), fun b q => x.new b (List.mem_append_left [I] q), fun _ q => (nomatch q), fun _ q => (nomatch q), x.vac, x.vaw, x.dL, x.inv, x.dS⟩
section
variable {prog : Program} {w : World} {A : Around} {s : Shared} {env : Env}
theorem for_rng {R : Result → Shared → Prop} {x : Str} {px : Pos} {body : List Stmt} {I : Addr} {n : Nat} (hh : A.handled = none) (J : Nat → Shared → Prop) (hit : IsRangeIter s.heap I 0 (n : Int) 1) (h0 : J 0 s)
    (mv : ∀ i (s' : Shared) (h' : Heap) (tk : Nat), J i s' → (∀ b o, b ≠ I → s'.heap.get? b = some o → h'.get? b = some o) → (h'.get? I).isSome = true → J i { s' with heap := h', toks := tk })
    (step : ∀ i (s' : Shared) (tk : Tok), i < n → J i s' → wpAny (model prog w) A (storeName env x (.int (Int.ofNat i) tk)) (fun _ s2 => wpAny (model prog w) A (execs body env) (fun f s3 => f = .next ∧ J (i + 1) s3 ∧ ∀ o, s'.heap.get? I = some o → s3.heap.get? I = some o) NoE s2) NoE s')
    (fin : ∀ (s' : Shared) (h' : Heap), J n s' → (∀ b o, b ≠ I → s'.heap.get? b = some o → h'.get? b = some o) → R (.ok .next) { s' with heap := h' }) : codeAny (model prog w) A (.forLoop (.Name x px) (.ref I) body [] env) R s := by
  refine codeAny_forLoop (fun k s' => ∃ i : Nat, IsRangeIter s'.heap I (i : Int) ((n : Int) - (i : Int)) 1 ∧ J i s' ∧ i ≤ n ∧ k = n + 1 - i) ?_ (n + 1) ⟨0, by simpa using hit, h0, Nat.zero_le _, rfl⟩
  rintro k s' ⟨i, hit', hJ, hi, rfl⟩
  by_cases hlt : i < n
  · refine wpAny_pyNext_range_item hit' (by (first | lia | omega)) fun h₁ hit₁ hs₁ => ?_
    have hJ1 := mv i s' h₁ (s'.toks + 1) hJ (fun b o nb q => (hs₁.2 b nb).trans q) (by rw [show h₁.get? I = some _ from hit₁]; rfl)
    refine wpAny_assign_Name (wpAny_mono (step i _ s'.toks hlt hJ1) (fun _ s2 q => wpAny_mono q (fun f s3 q => ?_) fun _ _ z => z.elim) fun _ _ z => z.elim)
    obtain ⟨rfl, hJ2, hI⟩ := q
    refine ⟨n + 1 - (i + 1), by (first | lia | omega), i + 1, ?_, hJ2, hlt, rfl⟩
    have e1 : ((i + 1 : Nat) : Int) = (i : Int) + 1 := by (first | lia | omega)
    have e2 : (n : Int) - ((i + 1 : Nat) : Int) = (n : Int) - (i : Int) - 1 := by (first | lia | omega)
    rw [e2, e1]
    exact hI _ hit₁
  · have hin : i = n := by (first | lia | omega)
    subst hin
    exact wpAny_pyNext_range_end hh hit' (by (first | lia | omega)) fun h₁ he₁ => wpAny_execs_nil (fin s' h₁ hJ he₁)
end
end Mine.Internal

end
section
open PySem PySem.W PyProof.Rows
set_option Elab.async false
set_option tactic.hygienic false
set_option backward.match.sparseCases false
set_option bootstrap.genMatcherCode false
namespace Mine.Internal
theorem getD_app {V : List Int} {v : Int} {i : Nat} (h : i < V.length) : (V ++ [v]).getD i 0 = V.getD i 0 := by
  simp [List.getD, List.getElem?_append_left h]
theorem getD_last {V : List Int} {v : Int} : (V ++ [v]).getD V.length 0 = v := by simp [List.getD]
theorem v_app {V : List Int} {v : Int} {m : Nat} {a : Opd} (w : a.wf m) (hm : m ≤ V.length) : a.v (V ++ [v]) = a.v V := by
  cases a with
  | k _ => rfl
  | r i => exact getD_app (Nat.lt_of_lt_of_le w hm)
theorem sem_app {V : List Int} {v : Int} {m : Nat} {s : Shp} (w : s.wf m) (hm : m ≤ V.length) : s.sem (V ++ [v]) = s.sem V := by
  cases s with
  | two o a b => show sem2 o _ _ = sem2 o _ _; rw [v_app w.1 hm, v_app w.2 hm]
  | one o a => show some (sem1 o _) = some (sem1 o _); rw [v_app w hm]
  | load _ _ => rfl
  | name _ _ => rfl
  | const a => show some _ = some _; rw [v_app w hm]
  | copy a => show some _ = some _; rw [v_app w hm]
theorem look_app {i n : Nat} {s t : Shp} : ∀ {F : Fcs}, look i (F ++ [(n, s)]) = some t → look i F = some t ∨ (i = n ∧ t = s)
  | [], h => by
    have h : (if i = n then some s else none) = some t := h
    by_cases e : i = n
    · rw [if_pos e] at h; cases h; exact .inr ⟨e, rfl⟩
    · rw [if_neg e] at h; cases h
  | (j, u) :: F, h => by
    have h : (if i = j then some u else look i (F ++ [(n, s)])) = some t := h
    show (if i = j then some u else look i F) = some t ∨ _
    by_cases e : i = j
    · rw [if_pos e] at h; rw [if_pos e]; exact .inl h
    · rw [if_neg e] at h; rw [if_neg e]; exact look_app h
theorem allV_snoc {V : List Int} {v : Int} (h : AllV V) (w : W32 v) : AllV (V ++ [v]) := fun i hi => by
  rw [List.length_append] at hi
  by_cases e : i < V.length
  · rw [getD_app e]; exact h i e
  · have : i = V.length := by have : i < V.length + 1 := hi; (first | lia | omega)
    rw [this, getD_last]; exact w
theorem con_snoc {V : List Int} {F : Fcs} {s : Shp} {v : Int} (c : Con V F) (hs : Sok V s v) (h3 : 3 ≤ V.length) (h8 : V.length ≤ 8) : Con (V ++ [v]) (F ++ [(V.length, s)]) := by
  have hlen : (V ++ [v]).length = V.length + 1 := by simp
  refine ⟨by (first | lia | omega), allV_snoc c.w hs.w, fun i t h => ?_, fun i t h => ?_, fun i t h => ?_, fun i t h => ?_⟩
  · rcases look_app h with h | ⟨rfl, _⟩
    · have := c.idx i t h; (first | lia | omega)
    · (first | lia | omega)
  · rcases look_app h with h | ⟨rfl, rfl⟩
    · exact c.wf i t h
    · exact hs.wf
  · rcases look_app h with h | ⟨rfl, rfl⟩
    · exact c.kind i t h
    · exact hs.kind
  · rcases look_app h with h | ⟨rfl, rfl⟩
    · have hi := (c.idx i t h).2
      rw [getD_app hi]
      refine ⟨(c.sem i t h).1, fun n => ?_⟩
      rw [sem_app (c.wf i t h) (Nat.le_of_lt hi)]
      exact (c.sem i t h).2 n
    · rw [getD_last]
      refine ⟨hs.ld, fun n => ?_⟩
      rw [sem_app hs.wf (Nat.le_refl _)]
      exact hs.sem n
theorem con_new {V : List Int} {F : Fcs} (c : Con V F) : look V.length F = none := by
  cases e : look V.length F with
  | none => rfl
  | some s => have := (c.idx _ _ e).2; (first | lia | omega)
end Mine.Internal

end
section
open PySem PySem.W PyProof.Rows PySem.Calls
set_option Elab.async false
set_option tactic.hygienic false
set_option maxRecDepth 100000
set_option maxHeartbeats 4000000
set_option linter.all false
set_option genSizeOf false
set_option genInjectivity false
set_option backward.match.sparseCases false
set_option bootstrap.genMatcherCode false
namespace Mine.Internal
variable {KH : World → Frag} [kit : Kit KH]
noncomputable abbrev nK : Str := ⟨#[107]⟩
noncomputable abbrev nValue : Str := ⟨#[118, 97, 108, 117, 101]⟩
noncomputable def forBody : List Stmt := match (show List Stmt from nb452.1)[2]? with
  | some (Stmt.For _ _ b _ _) => b
  | _ => []
theorem KvR.len {X : Wd} {h : Heap} {r : List (Int × Value)} {F : Fcs} (x : KvR X h r F) : r.length = F.length := by
  induction x with
  | nil => rfl
  | cons _ _ ih => exact congrArg (· + 1) ih
theorem sAppend_is : (⟨#[97, 112, 112, 101, 110, 100]⟩ : Str) = "append" := by decide +kernel
theorem ints_head {X : Wd} {h : Heap} {V : List Int} {vs : List Value} (r : RepL X h vs (V.map D.int)) (hl : 3 ≤ V.length) : ∃ a t r0, vs = .int a t :: r0 := by
  cases V with
  | nil => exact absurd hl (by decide)
  | cons a V =>
    cases r with | cons x y =>
    cases x
    exact ⟨_, _, _, rfl⟩
section
variable {prog : Program} {w : World} {A : Around} {s : Shared} {env : Env} {L cw cm aw ac va dsh : Addr} {mg mb m : Str → Option Value} {s0 : Heap}
theorem lw_call {pos : Pos} {a : Addr} {args : List Expr} {Z : Value → Shared → Prop} (hf : fnAt (KH w) a = true) (hs : noStar args = true) (h : wpAny (model prog w) A (spliced (backTo pos (starEach args env))) (fun vs s' => (KH w).In s'.heap ∧ wpAny (model prog w) A (call (.ref a) vs) Z NoE s') NoE s) :
    wpAny (model prog w) A (callWith pos (.ref a) [] (backTo pos (starEach args env)) []) Z NoE s := by
  cases fnAt_inv hf with | mk q r =>
  exact callWith_function (evalArgs_any hs (wpAny_mono h (fun vs s' q' => ⟨⟨q'.1 _ _ q, r⟩, q'.2⟩) fun _ _ x => x))
theorem gl_fn {x : Str} {a : Nat} {hb : ∀ x : Str, x ≠ "__name__" → mb x = bootBuiltins x} (B : Bs (KH w) mg mb s0) {h : Heap} (old : s0.StaysIn h) (e : gfk (keyOf x.cps.toList 1) x GL = some (.fn a)) : GlobAt h x (.ref a) :=
  (fn_of (AllG.find (x := x) (gl_all (X := ⟨Challenge.rw_nm0048_01.row.prog, w, 345, 0, 0⟩) B hb) (n := keyOf x.cps.toList 1) (d := .fn a) e)).keeps old
theorem gl_b {x : Str} {b : Bi} {hb : ∀ x : Str, x ≠ "__name__" → mb x = bootBuiltins x} (B : Bs (KH w) mg mb s0) {h : Heap} (old : s0.StaysIn h) (e : gfk (keyOf x.cps.toList 1) x GL = some (.bi b)) : GlobAt h x b.val :=
  (bi_of (AllG.find (x := x) (gl_all (X := ⟨Challenge.rw_nm0048_01.row.prog, w, 345, 0, 0⟩) B hb) (n := keyOf x.cps.toList 1) (d := .bi b) e)).keeps old
theorem law_ct {hb : ∀ x : Str, x ≠ "__name__" → mb x = bootBuiltins x} {ex : List Addr} {V : List Int} {F : Fcs} {σ : Sg} {a : Addr} {ds : List D} {vs : List Value} {Q : D → Sg → Prop} {Z : Value → Shared → Prop} (B : Bs (KH w) mg mb s0) (hA : AOk A 14) (x : LI (lawPre KH prog w aw ac mg hb).toWd s0 L cw cm va dsh ex V F σ s.heap) (c : ctI 14 a ds σ Q)
    (rs : RepL (lawPre KH prog w aw ac mg hb).toWd (hideAll s.heap (hidC (lawPre KH prog w aw ac mg hb).toWd L cw cm dsh ex)) vs ds)
    (h : ∀ (s' : Shared) (d : D) (σ' : Sg) (v : Value), Q d σ' → Rep (lawPre KH prog w aw ac mg hb).toWd (hideAll s'.heap (hidC (lawPre KH prog w aw ac mg hb).toWd L cw cm dsh ex)) v d → (InvS σ' → LI (lawPre KH prog w aw ac mg hb).toWd s0 L cw cm va dsh ex V F σ' s'.heap) → s' = { s with heap := s'.heap, toks := s'.toks } → Keep [aw] s.heap s'.heap → Z v s') :
    wpAny (model prog w) A (call (.ref a) vs) Z NoE s := by
  cases calls_all (lawPre KH prog w aw ac mg hb) 14 c with | mk q =>
  refine wpAny_mono (q hA (x.callBase B) (.head _) x.callLive rs x.callWell) (fun v s' p => ?_) fun _ _ z => z
  cases p with | mk d σ' hq r wl sp => exact h s' d σ' v hq r (fun i => x.call sp.keep wl i) sp.same sp.keep
theorem turn {hb : ∀ x : Str, x ≠ "__name__" → mb x = bootBuiltins x} {I : Addr} {V : List Int} {F : Fcs} {σ : Sg} {i : Nat} {tk : Tok} (B : Bs (KH w) mg mb s0) (hA : AOk A 14) (e : LEnv env L cw cm)
    (x : LI (lawPre KH prog w aw ac mg hb).toWd s0 L cw cm va dsh [I] V F σ s.heap) (c : Con V F) (hF : F.length = i) (hl : V.length = 3 + i) (hi : i < 6) (hn : s.heap.Ns L m) (hk : m nK = some (.int (Int.ofNat i) tk)) (hv : m nValues = some (.ref va)) (hsh : m nShapes = some (.ref dsh)) :
    wpAny (model prog w) A (execs forBody env) (fun f s3 => f = .next ∧ (∃ V' F' σ', LI (lawPre KH prog w aw ac mg hb).toWd s0 L cw cm va dsh [I] V' F' σ' s3.heap ∧ Con V' F' ∧ F'.length = i + 1 ∧ V'.length = 3 + (i + 1) ∧ s3 = { s with heap := s3.heap, toks := s3.toks }) ∧ ∀ o, s.heap.get? I = some o → s3.heap.get? I = some o) NoE s := by
  obtain ⟨hh, g, d, tk0, os⟩ := s
  dsimp only at *
  have nI := x.xl I (.head _)
  have N := x.ln
  obtain ⟨vs, hvs, rvs⟩ := x.vals
  have hvz := x.size hvs
  refine wpAny_execs_cons (Assign_Tuple ?_ swapsWith_tup (swp_none (F := lawFm env L []) rfl))
  refine Call_Name rfl (lw_glob e.kind (e.names _ _ rfl) e.glob e.bui rfl (gl_fn (hb := hb) B x.old (a := 431) rfl) ?_)
  refine lw_call (KH := KH) (fnAt_lk rfl) (by rfl) (spliced_more (lw_well e x.hcw (spliced_more (wpAny_BinOp (wpAny_Constant_int (lw_loc e (by rfl) (by rfl) hn hk (add_int (spliced_more (lw_loc e (by rfl) (by rfl) hn hv (spliced_none ?_))))))))))
  refine ⟨B.K.keeps x.old, ?_⟩
  have hlen : (Int.ofNat 3 + Int.ofNat i) = Int.ofNat V.length := by rw [hl]; rfl
  refine law_ct (s := ⟨hh, g, d, _, os⟩) (V := V) (F := F) (hb := hb) (ds := [.wel, .int (Int.ofNat V.length), .lst (V.map D.int)]) (Q := fun d σ' => ∃ s v, d = .lst [Shp.d s, .int v] ∧ Sok V s v ∧ InvS σ') B hA x (show CT 14 431 _ _ _ from CT.lshape rfl x.inv c.w ⟨by (first | lia | omega), by (first | lia | omega)⟩ fun s v σ' a b => ⟨s, v, rfl, a, b⟩) ?_ ?_
  · obtain ⟨k, hk'⟩ := id hvs
    exact .cons .wel (.cons (hlen ▸ .int _ _) (.cons (.lst (by (first | lia | omega)) ⟨_, hideAll_get _ hk' (not6 x.vaw N.vL (Ne.symm N.cva) (Ne.symm N.mva) (Ne.symm N.dva) (Ne.symm nI.2.2.2.1)), rfl, _, rfl⟩ (ints_rep rvs)) .nil))
  · rintro ⟨h1, g1, d1, tk1, os1⟩ dd σ' v ⟨sh, val, rfl, sok, inv'⟩ r lx sm kp
    have x1 := lx inv'
    cases sm
    dsimp only at *
    rw [arm_assign_Tuple]
    refine wpAny_bind (wpAny_standAt ?_)
    unfold unpack
    refine wpAny_bind (wpAny_holding (unpackItems_any (C := lawCfg KH prog w aw ac mg hb) (d := .lst [sh.d, .int val]) (ds := [sh.d, .int val]) hA.handled r rfl fun us h2 st2 rr => ?_))
    cases rr with | @cons u us r1 rr =>
    cases rr with | @cons u2 us r2 rr =>
    cases rr
    cases r2 with | int t =>
    have kL : ∀ o, hh.get? L = some o → h2.get? L = some o := fun o q => st2 _ _ (kp L o (fun z => N.awL (List.mem_singleton.mp z).symm) q)
    have kI : ∀ o, hh.get? I = some o → h2.get? I = some o := fun o q => st2 _ _ (kp I o (fun z => nI.2.2.2.2.2 (List.mem_singleton.mp z)) q)
    have hn2 := hn.at kL
    have x2 := x1.grow st2
    obtain ⟨kvs, hm2, kv2⟩ := x2.shp
    obtain ⟨vs2, hvs2, rvs2⟩ := x2.vals
    have hkl := kv2.len
    obtain ⟨a0, t0, r0, hhd⟩ := ints_head rvs2 (by (first | lia | omega))
    have ru : Rep (lawPre KH prog w aw ac mg hb).toWd (hideAll h2 (hidV (lawPre KH prog w aw ac mg hb).toWd L cw cm va dsh [I])) u sh.d := hide_rep hvs2 hhd sh.d (nv_shp sh) (r1.keeps (stays_hid _ st2))
    show wpAny _ _ (do holding [Value.int val t] (assign (.Subscript _ _ _) env u); (do holding [] (assign (.Name _ _) env (.int val t)); pure ())) _ _ _
    refine wpAny_bind (wpAny_holding ?_)
    rw [arm_assign_Subscript]
    refine wpAny_bind (wpAny_holding (lw_loc e (by rfl) (by rfl) hn2 hsh ?_))
    refine wpAny_bind (wpAny_holding (wpAny_BinOp (wpAny_Constant_int (lw_loc e (by rfl) (by rfl) hn2 hk (add_int ?_)))))
    refine wpAny_bind (wpAny_standAt (wpAny_bind (wpAny_holding (wpAny_setItem_pairs (intKind_is _ _ _ _) hm2 (fun h3 hm3 hs3 => wpAny_release' ?_) (by rw [sizeLine_eq]; (first | lia | omega))))))
    rw [hlen] at hm3
    have x3 := x2.setD kv2 hs3 hm3 (con_new c) ru
    have hn3 : h3.Ns L m := hn2.at fun o q => (hs3.2 _ (Ne.symm x.dL)).trans q
    refine wpAny_bind (wpAny_holding (wpAny_assign_Name (wpAny_storeName_local (e.names _ _ rfl) (e.loc ▸ hn3) (fun h4 hn4 hs4 => wpAny_pure ?_) (by rw [e.kind]; rfl))))
    rw [e.loc] at hn4 hs4
    have x4 := x3.setL hs4 hn4 ((if_neg (by decide)).trans hv) ((if_neg (by decide)).trans hsh)
    obtain ⟨vs4, hvs4, rvs4⟩ := x4.vals
    have hz4 := x4.size hvs4
    refine wpAny_execs_cons (wpAny_Expr ?_ ?_ ?_)
    · rw [sAppend_is]
      refine wpAny_Call_append (by rfl) (by rfl) (by rfl) (by rfl) (lw_loc e (by rfl) (by rfl) hn4 ((if_neg (by decide)).trans hv) ⟨va, vs4, rfl, (let ⟨k, hk'⟩ := hvs4; ⟨_, k, hk', rfl, rfl, rfl⟩), lw_loc e (by rfl) (by rfl) hn4 (if_pos rfl) (wpAny_list_append_plain hvs4 (fun h5 hv5 hs5 => wpAny_execs_nil ?_) (by rw [sizeLine_eq]; (first | lia | omega)))⟩)
      have x5 := x4.app hvs4 hs5 hv5
      refine ⟨rfl, ⟨_, _, σ', x5, con_snoc c sok (by (first | lia | omega)) (by (first | lia | omega)), by rw [List.length_append]; exact congrArg (· + 1) hF, by rw [List.length_append, hl]; rfl, rfl⟩, fun o q => ?_⟩
      exact (hs5.2 _ nI.2.2.2.1).trans ((hs4.2 _ nI.1).trans ((hs3.2 _ nI.2.2.2.2.1).trans (kI o q)))
    · unfold interactive
      rw [e.kind]; rfl
    · rfl
end
end Mine.Internal

end
section
open PySem PySem.W PyProof.Rows PySem.Calls
set_option Elab.async false
set_option tactic.hygienic false
set_option maxRecDepth 100000
set_option maxHeartbeats 4000000
set_option linter.all false
set_option genSizeOf false
set_option genInjectivity false
set_option backward.match.sparseCases false
set_option bootstrap.genMatcherCode false
namespace Mine.Internal
variable {KH : World → Frag} [kit : Kit KH]
section
variable {prog : Program} {w : World} {A : Around} {s : Shared} {env : Env} {L cw cm aw ac va dsh : Addr} {mg mb m : Str → Option Value} {s0 : Heap}
theorem w3 {hb : ∀ x : Str, x ≠ "__name__" → mb x = bootBuiltins x} {V : List Int} {σ : Sg} {Z : Flow → Shared → Prop} (B : Bs (KH w) mg mb s0) (hA : AOk A 14) (e : LEnv env L cw cm)
    (x : LI (lawPre KH prog w aw ac mg hb).toWd s0 L cw cm va dsh [] V [] σ s.heap) (c : AllV V) (hl : V.length = 3)
    (h : ∀ (h' : Heap) (tk : Nat) (V : List Int) (F : Fcs) (σ : Sg), LI (lawPre KH prog w aw ac mg hb).toWd s0 L cw cm va dsh [] V F σ h' → Con V F → 3 ≤ V.length → wpAny (model prog w) A (execs (nb452.1.drop 3) env) Z NoE { s with heap := h', toks := tk }) :
    wpAny (model prog w) A (execs (nb452.1.drop 2) env) Z NoE s := by
  obtain ⟨hh, g, d, tk0, os⟩ := s
  dsimp only at *
  have N := x.ln
  refine wpAny_execs_cons (wpAny_For ?_ (by intro _; rfl))
  refine Call_Name rfl (lw_glob e.kind (e.names _ _ rfl) e.glob e.bui rfl (gl_b (hb := hb) B x.old (b := .range) rfl) ?_)
  refine PyProof.Rows.callWith_type rfl (evalArgs_plain (spliced_cons ?_))
  refine Call_Name rfl (lw_glob e.kind (e.names _ _ rfl) e.glob e.bui rfl (gl_fn (hb := hb) B x.old (a := 372) rfl) ?_)
  refine lw_call (KH := KH) (fnAt_lk rfl) (by rfl) (spliced_more (lw_well e x.hcw (spliced_more (wpAny_Constant_int (spliced_none ?_)))))
  refine ⟨B.K.keeps x.old, ?_⟩
  refine law_ct (s := ⟨hh, g, d, _, os⟩) (V := V) (F := []) (hb := hb) (ds := [.wel, .int 7]) (Q := fun d σ' => ∃ n : Nat, d = .int (Int.ofNat n) ∧ n < 7 ∧ InvS σ') B hA x (show CT 14 372 _ _ _ from CT.ldraw rfl x.inv ⟨by decide, by decide⟩ fun n σ' a b => ⟨n, rfl, a, b⟩) (.cons .wel (.cons (.int _ _) .nil)) ?_
  rintro ⟨h1, g1, d1, tk1, os1⟩ dd σ' v ⟨n, rfl, hn7, inv'⟩ r lx sm kp
  have x1 := lx inv'
  have hcast : Int.ofNat n = (n : Int) := rfl
  cases sm
  cases r with | int t =>
  refine spliced_nil (call_range_1 ?_)
  dsimp only at *
  refine wpAny_pyIter_range (Heap.get?_push_size _ rfl) (small_one (by decide) (by decide) (by (first | lia | omega)) (by (first | lia | omega))) ?_
  have hrs : Builtin.Range.rangeSize 0 (Int.ofNat n) 1 = (n : Int) := by rw [rangeSize_one]; split <;> (first | lia | omega)
  rw [hrs]
  dsimp only
  generalize hH : h1.push _ = h2
  have st2 : h1.StaysIn h2 := hH ▸ stays_push _
  have x2 := x1.grow st2
  have x3 := x2.add (stays_push { cls := .type "range_iterator", data := .fields #[rawInt 0, rawInt (n : Int), rawInt 1] }) (Heap.get?_none_of_le (Nat.le_refl _)) (by rw [Heap.get?_push_size _ rfl]; rfl)
  refine for_rng (n := n) hA.handled (fun i s' => ∃ V F σ, LI (lawPre KH prog w aw ac mg hb).toWd s0 L cw cm va dsh [h2.objs.size] V F σ s'.heap ∧ Con V F ∧ F.length = i ∧ V.length = 3 + i ∧ s' = ⟨s'.heap, g, d, s'.toks, os⟩) (Heap.get?_push_size _ rfl) ⟨V, [], σ', x3, con_nil c (by (first | lia | omega)), rfl, hl, rfl⟩ ?_ ?_ ?_
  · rintro i ⟨h4, g4, d4, tk4, os4⟩ h' tk ⟨V, F, σ, y, cn, hF, hV, sm⟩ k l
    cases sm
    exact ⟨V, F, σ, y.it (.head _) k l, cn, hF, hV, rfl⟩
  · rintro i ⟨h4, g4, d4, tk4, os4⟩ tk hi ⟨V, F, σ, y, cn, hF, hV, sm⟩
    cases sm
    obtain ⟨m, hn, e1, e2⟩ := y.fr
    have nI := y.xl _ (.head _)
    refine wpAny_storeName_local (e.names _ _ rfl) (e.loc ▸ hn) (fun h5 hn5 hs5 => ?_) (by rw [e.kind]; rfl)
    rw [e.loc] at hn5 hs5
    have y5 := y.setL hs5 hn5 ((if_neg (by decide)).trans e1) ((if_neg (by decide)).trans e2)
    refine wpAny_mono (turn B hA e y5 cn hF hV (by (first | lia | omega)) hn5 (if_pos rfl) ((if_neg (by decide)).trans e1) ((if_neg (by decide)).trans e2)) (fun f s3 q => ?_) fun _ _ z => z
    obtain ⟨rfl, ⟨V', F', σ', y', cn', hF', hV', sm'⟩, kI⟩ := q
    exact ⟨rfl, ⟨V', F', σ', y', cn', hF', hV', sm'⟩, fun o q => kI o ((hs5.2 _ nI.1).trans q)⟩
  · rintro ⟨h4, g4, d4, tk4, os4⟩ h' ⟨V, F, σ, y, cn, hF, hV, sm⟩ k
    cases sm
    exact h h' tk4 V F σ (y.out k) cn (by (first | lia | omega))
end
end Mine.Internal

end
section
open PySem PySem.W PyProof.Rows PySem.Calls
set_option Elab.async false
set_option tactic.hygienic false
set_option maxRecDepth 100000
set_option maxHeartbeats 4000000
set_option linter.all false
set_option genSizeOf false
set_option genInjectivity false
set_option backward.match.sparseCases false
set_option bootstrap.genMatcherCode false
namespace Mine.Internal
variable {KH : World → Frag} [kit : Kit KH]
section
variable {prog : Program} {w : World} {A : Around} {s : Shared}
set_option backward.match.sparseCases true in
theorem call_loc {R : Result → Shared → Prop} {a : Addr} {xs : List Str} {names : List (Str × NameKind)} {body : List Stmt} {vs : List Value} (F : FnOk (KH w) a xs names body) (hloc : allLoc names xs = true) (hA : A.depth < 900) (X : (KH w).In s.heap) (nl : s.heap.NoLimit) (hvl : vs.length = xs.length)
    (h : ∀ (h₁ : Heap) (tk : Nat) (env : Env), EnvF env s.heap.objs.size names → h₁.Ns s.heap.objs.size (updP (fun x => isLocalK (lk x names)) (xs.zip vs) fun _ => none) → s.heap.StaysIn h₁ → env.globals = mainGlobals → env.builtins = builtinsNs →
      wpAny (model prog w) (A.deeper env) (execs body env) (fun f s' => R (.ok (.ret (match f with | .ret v => v | _ => .none))) s') NoE { s with heap := h₁, toks := tk }) :
    codeAny (model prog w) A (.call (.ref a) ⟨vs, []⟩) R s := by
  cases F with | mk ob nm pars =>
  cases ob with | mk o fd ho hd hb hclo hgl hbu hcode hco hgen hk hnm hbind =>
  have hkl : ∀ x, fd.scope.names.lookup x = lk x names := fun x => by rw [hnm, lk_lookup]
  have all : ∀ {l : List Str}, allLoc names l = true → ∀ x ∈ l, lk x names = some .local := fun {l} => by
    induction l with
    | nil => exact fun _ _ q => nomatch q
    | cons y r ih =>
      intro q x hx
      obtain ⟨q1, q2⟩ := Bool.and_eq_true_iff.mp q
      rcases List.mem_cons.mp hx with rfl | hx
      · exact isLocalK_spec q1
      · exact ih q2 x hx
  refine codeAny_call_cells (binds := xs.zip vs) (Nat.lt_trans hA (by decide)) (X _ _ ho) hd nl (codeRec_of X hcode) hb (hbind vs hvl) hclo (fun x hx => .inl ((hkl _).trans (all hloc _ (List.of_mem_zip hx).1))) (fun s₁ x => ?_) hco hgen hk
  obtain ⟨h₁, tk, rfl, keep⟩ := x.done
  have hkind : ∀ y, (callEnvC fd s.heap.objs.size a).kindOf y = lk y names := fun y => hkl y
  have hns := x.toInCall.ns
  rw [bindL_upd hkind] at hns
  exact wpAny_mono (h h₁ tk _ ⟨hk, rfl, fun y k q => (hkind y).trans q⟩ hns (fun b o e => keep b o e) hgl hbu) (fun _ _ q => q) fun _ _ z => z.elim
end
end Mine.Internal

end
section
open PySem PySem.W PyProof.Rows PySem.Calls
set_option Elab.async false
set_option tactic.hygienic false
set_option maxRecDepth 100000
set_option maxHeartbeats 4000000
set_option linter.all false
set_option genSizeOf false
set_option genInjectivity false
set_option backward.match.sparseCases false
set_option bootstrap.genMatcherCode false
namespace Mine.Internal
variable {KH : World → Frag} [kit : Kit KH]
section
variable {prog : Program} {w : World} {A : Around} {s : Shared}
theorem set1 {C x dx L : Addr} {es : List DictEntry} {n : Nat} {rest : List (Addr × Obj)} {name : Str} {v : Value} {m : Str → Option Value} {sb : Heap} {Q : Unit → Shared → Prop} (F : Fr sb L s.heap m) (X : (KH w).In sb) (N : News sb L s.heap ((dx, dictOf es n) :: rest)) (hx : (x, instObj C dx) ∈ rest) (hd : ∀ p ∈ rest, p.1 ≠ dx)
    (c1 : findIn (KH w) (.ref C) "__setattr__" = some (some (.builtin "object.__setattr__"))) (c2 : plainOver (KH w) C = true) (c3 : takerIn (KH w) C name = some none) (c4 : hasDictIn (KH w) C = true) (hl : (getL name es).isSome = true) (hz : (putL name (PyData.keyHash w.params name) (.str name (s.toks + 1)) v es).length ≤ 1000)
    (h : ∀ h', Fr sb L h' m → News sb L h' ((dx, dictOf (putL name (PyData.keyHash w.params name) (.str name (s.toks + 1)) v es) (putN name es n)) :: rest) → Q () { s with heap := h', toks := s.toks + 2 }) :
    wpAny (model prog w) A (setAttr (.ref x) name v) Q NoE s :=
  set_dict F X N (InstAt.of_news N (.tail _ hx) (.head _)) rfl c1 c2 c3 c4 hl rfl (.head hd) hz h
theorem news2 {hh h₁ : Heap} {C : Addr} (st : ((hh.push emptyDict).push (instObj C hh.objs.size)).StaysIn h₁) {m : Str → Option Value} (hns : h₁.Ns ((hh.push emptyDict).push (instObj C hh.objs.size)).objs.size m) :
    Fr hh ((hh.push emptyDict).push (instObj C hh.objs.size)).objs.size h₁ m ∧ News hh ((hh.push emptyDict).push (instObj C hh.objs.size)).objs.size h₁ [(hh.objs.size, dictOf [] 0), (hh.objs.size + 1, instObj C hh.objs.size)] := by
  have e : ((hh.push emptyDict).push (instObj C hh.objs.size)).objs.size = hh.objs.size + 2 := by rw [Heap.size_push, Heap.size_push]
  refine ⟨⟨hns, fun b o q => st _ _ (stays_push _ _ _ (stays_push _ _ _ q)), by rw [e]; (first | lia | omega)⟩, fun p hp => ?_⟩
  rw [e]
  rcases List.mem_cons.mp hp with rfl | hp
  · exact ⟨st _ _ (stays_push _ _ _ (Heap.get?_push_size _ rfl)), by show hh.objs.size ≠ _; (first | lia | omega), Heap.get?_none_of_le (Nat.le_refl _)⟩
  · rw [List.mem_singleton.mp hp]
    refine ⟨st _ _ ?_, by show hh.objs.size + 1 ≠ _; (first | lia | omega), Heap.get?_none_of_le (Nat.le_succ _)⟩
    have := Heap.get?_push_size (hh.push emptyDict) (o := instObj C hh.objs.size) rfl
    rwa [Heap.size_push] at this
theorem en_loc {E : Value → Shared → Prop} {env : Env} {L : Addr} {names : List (Str × NameKind)} {m : Str → Option Value} {x : Str} {p : Pos} {v : Value} {Z : Value → Shared → Prop} (e : EnvF env L names) (hk : lk x names = some .local) (hd : (x == ("__debug__" : Str)) = false) (hn : s.heap.Ns L m) (hv : m x = some v) (h : Z v s) :
    wpAny (model prog w) A (eval (.Name x p) env) Z E s := wpAny_Name (wpAny_loadName_local e.kind (e.names _ _ hk) (e.loc ▸ hn) hv h) hd
theorem make_las {v1 v2 : Value} {R : Result → Shared → Prop} (X : (KH w).In s.heap) (nl : s.heap.NoLimit) (hA : A.depth < 890)
    (h : ∀ (h' : Heap) (tk : Nat) (x dx : Addr) (es : List DictEntry) (n : Nat), s.heap.StaysIn h' → s.heap.get? x = none → s.heap.get? dx = none → h'.get? x = some (instObj 289 dx) → h'.get? dx = some (dictOf es n) → getL nOps es = some (some v1) → getL nShapes es = some (some v2) →
      R (.ok (.ret (.ref x))) { s with heap := h', toks := tk }) : codeAny (model prog w) A (.call (.ref 289) ⟨[v1, v2], []⟩) R s := by
  obtain ⟨hh, g, d, tk0, os⟩ := s
  dsimp only at *
  have st0 : hh.StaysIn ((hh.push emptyDict).push (instObj 289 hh.objs.size)) := fun b o q => stays_push _ _ _ (stays_push _ _ _ q)
  have c := kit.las w
  have cs := kit.lasS w
  refine make_core (makes_of X c.makes) (looks_findIn X c.init) (fun self => bind_fn X self c.initF) (.inl rfl) ?_
  refine call_loc (kit.f286 w) rfl (by rw [depth_under_kw]; (first | lia | omega)) (X.keeps st0) (nl.keeps st0) rfl fun h₁ tk env e hns st gl bu => ?_
  obtain ⟨F, N⟩ := news2 st hns
  dsimp only at *
  have ne : ∀ p ∈ [(hh.objs.size + 1, instObj 289 hh.objs.size)], p.1 ≠ hh.objs.size := fun p hp => by rw [List.mem_singleton.mp hp]; exact Nat.succ_ne_self _
  refine wpAny_execs_cons (plainObj_wpAny_Assign_Attribute (en_loc e (by rfl) (by rfl) hns (by rfl) (en_loc e (by rfl) (by rfl) hns (by rfl) (set1 (s := ⟨h₁, g, d, tk, os⟩) F X N (.head _) ne c.set c.over cs.1 c.dict rfl (Nat.le_of_ble_eq_true rfl) fun h2 F2 N2 => ?_))))
  refine wpAny_execs_cons (plainObj_wpAny_Assign_Attribute (en_loc e (by rfl) (by rfl) F2.ns (by rfl) (en_loc e (by rfl) (by rfl) F2.ns (by rfl) (set1 (s := ⟨h2, g, d, _, os⟩) F2 X N2 (.head _) ne c.set c.over cs.2 c.dict rfl (Nat.le_of_ble_eq_true rfl) fun h3 F3 N3 => ?_))))
  refine wpAny_execs_nil ⟨rfl, h h3 _ (hh.objs.size + 1) hh.objs.size _ _ F3.keep (Heap.get?_none_of_le (Nat.le_succ _)) (Heap.get?_none_of_le (Nat.le_refl _)) (N3 _ (.tail _ (.head _))).1 (N3 _ (.head _)).1 rfl rfl⟩
theorem news_swap {h0 h : Heap} {L : Addr} {a b : Addr × Obj} {r : List (Addr × Obj)} (N : News h0 L h (a :: b :: r)) : News h0 L h (b :: a :: r) := fun p hp => by
  rcases List.mem_cons.mp hp with rfl | hp
  · exact N _ (.tail _ (.head _))
  · rcases List.mem_cons.mp hp with rfl | hp
    · exact N _ (.head _)
    · exact N _ (.tail _ (.tail _ hp))
theorem en_attr {env : Env} {L : Addr} {names : List (Str × NameKind)} {m : Str → Option Value} {x name : Str} {p pos : Pos} {v : Value} {xl dxl C : Addr} {esl : List DictEntry} {nl : Nat} {sb : Heap} {attr : Option Value} {Z : Value → Shared → Prop} (e : EnvF env L names) (hk : lk x names = some .local) (hd : (x == ("__debug__" : Str)) = false) (F : Fr sb L s.heap m) (hv : m x = some (.ref xl)) (X : (KH w).In sb)
    (h1 : s.heap.get? xl = some (instObj C dxl)) (h2 : s.heap.get? dxl = some (dictOf esl nl)) (c1 : plainGet (KH w) C name = true) (c2 : hasDictIn (KH w) C = true) (c3 : findIn (KH w) (.ref C) name = some attr) (c4 : noGet (KH w) attr = true) (hl : getL name esl = some (some v)) (hv2 : handedIn v = true) (h : Z v { s with toks := s.toks + 1 }) :
    wpAny (model prog w) A (eval (.Attribute (.Name x p) name pos) env) Z NoE s := by
  rw [arm_eval_Attribute]
  refine wpAny_bind (en_loc e hk hd F.ns hv ?_)
  refine wpAny_bind (wpAny_standAt ?_)
  refine wpAny_bind (wpAny_holding (get_own F X ⟨h1, rfl, rfl, h2⟩ c1 c2 c3 c4 hl hv2 ?_))
  exact wpAny_bind (wpAny_pure (wpAny_pure h))
theorem make_fac {xl dxl d0 dsh : Addr} {esl : List DictEntry} {nn : Nat} {R : Result → Shared → Prop} (X : (KH w).In s.heap) (nl : s.heap.NoLimit) (hA : A.depth < 890) (l1 : s.heap.get? xl = some (instObj 289 dxl)) (l2 : s.heap.get? dxl = some (dictOf esl nn)) (l3 : getL nOps esl = some (some (.ref d0))) (l4 : getL nShapes esl = some (some (.ref dsh)))
    (hS : (dsh == sysModules) = false) (hM : ∃ o, s.heap.get? mainGlobals = some o)
    (h : ∀ (h' : Heap) (tk : Nat) (x : Addr), s.heap.StaysIn h' → (∀ hid, (∀ a ∈ hid, (s.heap.get? a).isSome = true) → FacBase 345 (hideAll h' hid) x dsh) → R (.ok (.ret (.ref x))) { s with heap := h', toks := tk }) :
    codeAny (model prog w) A (.call (.ref 345) ⟨[.ref xl], []⟩) R s := by
  obtain ⟨hh, g, d, tk0, os⟩ := s
  dsimp only at *
  have st0 : hh.StaysIn ((hh.push emptyDict).push (instObj 345 hh.objs.size)) := fun b o q => stays_push _ _ _ (stays_push _ _ _ q)
  have c := kit.fac w
  have cs := kit.facS w
  have cg := kit.lasG w
  refine make_core (makes_of X c.makes) (looks_findIn X c.init) (fun self => bind_fn X self c.initF) (.inl rfl) ?_
  refine call_loc (kit.f307 w) rfl (by rw [depth_under_kw]; (first | lia | omega)) (X.keeps st0) (nl.keeps st0) rfl fun h₁ tk env e hns st gl bu => ?_
  obtain ⟨F, N⟩ := news2 st hns
  dsimp only at *
  have ne : ∀ p ∈ [(hh.objs.size + 1, instObj 345 hh.objs.size)], p.1 ≠ hh.objs.size := fun p hp => by rw [List.mem_singleton.mp hp]; exact Nat.succ_ne_self _
  refine wpAny_execs_cons (plainObj_wpAny_Assign_Attribute (en_attr (s := ⟨h₁, g, d, tk, os⟩) e (by rfl) (by rfl) F (by rfl) X (F.keep _ _ l1) (F.keep _ _ l2) cg.1 (kit.las w).dict cg.2.2.1 rfl l3 rfl (en_loc e (by rfl) (by rfl) F.ns (by rfl) (set1 (s := ⟨h₁, g, d, _, os⟩) F X N (.head _) ne c.set c.over cs.1 c.dict rfl (Nat.le_of_ble_eq_true rfl) fun h2 F2 N2 => ?_))))
  refine wpAny_execs_cons (plainObj_wpAny_Assign_Attribute (en_attr (s := ⟨h2, g, d, _, os⟩) e (by rfl) (by rfl) F2 (by rfl) X (F2.keep _ _ l1) (F2.keep _ _ l2) cg.2.1 (kit.las w).dict cg.2.2.2 rfl l4 rfl (en_loc e (by rfl) (by rfl) F2.ns (by rfl) (set1 (s := ⟨h2, g, d, _, os⟩) F2 X N2 (.head _) ne c.set c.over cs.2.1 c.dict rfl (Nat.le_of_ble_eq_true rfl) fun h3 F3 N3 => ?_))))
  refine wpAny_execs_cons (plainObj_wpAny_Assign_Attribute (wpAny_Dict_empty ?_))
  have N3' := news_swap (N3.push F3 emptyDict)
  have F3' := F3.push emptyDict
  have lt3 := Heap.lt_size (N3 _ (.head _)).1
  have ne3 : ∀ p ∈ [(h3.objs.size, emptyDict), (hh.objs.size + 1, instObj 345 hh.objs.size)], p.1 ≠ hh.objs.size := fun p hp => by
    rcases List.mem_cons.mp hp with rfl | hp
    · exact Nat.ne_of_gt lt3
    · exact ne p hp
  refine en_loc e (by rfl) (by rfl) F3'.ns (by rfl) (set1 (s := ⟨h3.push emptyDict, g, d, _, os⟩) F3' X N3' (.tail _ (.head _)) ne3 c.set c.over cs.2.2.1 c.dict rfl (Nat.le_of_ble_eq_true rfl) fun h4 F4 N4 => ?_)
  refine wpAny_execs_cons (plainObj_wpAny_Assign_Attribute (wpAny_Dict_empty ?_))
  have N4' := news_swap (N4.push F4 emptyDict)
  have F4' := F4.push emptyDict
  have lt4 := Heap.lt_size (N4 _ (.head _)).1
  have ne4 : ∀ p ∈ [(h4.objs.size, emptyDict), (h3.objs.size, emptyDict), (hh.objs.size + 1, instObj 345 hh.objs.size)], p.1 ≠ hh.objs.size := fun p hp => by
    rcases List.mem_cons.mp hp with rfl | hp
    · exact Nat.ne_of_gt lt4
    · exact ne3 p hp
  refine en_loc e (by rfl) (by rfl) F4'.ns (by rfl) (set1 (s := ⟨h4.push emptyDict, g, d, _, os⟩) F4' X N4' (.tail _ (.tail _ (.head _))) ne4 c.set c.over cs.2.2.2.1 c.dict rfl (Nat.le_of_ble_eq_true rfl) fun h5 F5 N5 => ?_)
  refine wpAny_execs_cons (plainObj_wpAny_Assign_Attribute (wpAny_Constant_int (en_loc e (by rfl) (by rfl) F5.ns (by rfl) (set1 (s := ⟨h5, g, d, _, os⟩) F5 X N5 (.tail _ (.tail _ (.head _))) ne4 c.set c.over cs.2.2.2.2 c.dict rfl (Nat.le_of_ble_eq_true rfl) fun h6 F6 N6 => ?_))))
  refine wpAny_execs_nil ⟨rfl, h h6 _ (hh.objs.size + 1) F6.keep fun hid hl => ?_⟩
  have no : ∀ {a : Addr}, hh.get? a = none → a ∉ hid := fun n q => live_none n (hl _ q)
  obtain ⟨om, hom⟩ := hM
  have l3 := Heap.lt_size (F3.keep _ _ hom)
  exact .mk hh.objs.size h3.objs.size _ _ 0 #[] (hideAll_get _ (N6 _ (.tail _ (.tail _ (.tail _ (.head _))))).1 (no (Heap.get?_none_of_le (Nat.le_succ _)))) (hideAll_get _ (N6 _ (.head _)).1 (no (Heap.get?_none_of_le (Nat.le_refl _)))) rfl rfl
    (hideAll_get _ (N6 _ (.tail _ (.tail _ (.head _)))).1 (no (N6 _ (.tail _ (.tail _ (.head _)))).2.2)) rfl (beq_false_of_ne (Ne.symm (Nat.ne_of_lt (Nat.lt_of_le_of_lt (by decide) l3)))) hS
end
end Mine.Internal

end
section
open PySem PySem.W PyProof.Rows PySem.Calls
set_option Elab.async false
set_option tactic.hygienic false
set_option maxRecDepth 100000
set_option maxHeartbeats 4000000
set_option linter.all false
set_option genSizeOf false
set_option genInjectivity false
set_option backward.match.sparseCases false
set_option bootstrap.genMatcherCode false
namespace Mine.Internal
variable {KH : World → Frag} [kit : Kit KH]
noncomputable abbrev nFacts : Str := ⟨#[102, 97, 99, 116, 115]⟩
section
variable {X : Wd} {h : Heap}
theorem kv_rpi {G : Int → Value} {r : List (Int × Value)} {F : Fcs} (x : KvR X h r F) (hG : ∀ kv ∈ r, G kv.1 = kv.2) : RpI X h F.d G := by
  induction x with
  | nil => trivial
  | @cons i s v r F a b ih => exact ⟨by rw [show G (Int.ofNat i) = v from hG _ (.head _)]; exact a, ih fun kv q => hG kv (.tail _ q)⟩
theorem valueAt_cons {i j : Int} {v : Value} {r : List (Int × Value)} : valueAt ((i, v) :: r) j = if i = j then some v else valueAt r j := by
  unfold valueAt
  rw [List.find?_cons]
  by_cases e : i = j
  · simp [e]
  · simp [e]
theorem valueAt_mem {r : List (Int × Value)} (n : (r.map (·.1)).Nodup) (kv : Int × Value) (q : kv ∈ r) : valueAt r kv.1 = some kv.2 := by
  induction r with
  | nil => exact nomatch q
  | cons p r ih =>
    have n := List.nodup_cons.mp n
    show valueAt ((p.1, p.2) :: r) kv.1 = _
    rw [valueAt_cons]
    rcases List.mem_cons.mp q with e | q
    · rw [e]; exact if_pos rfl
    · rw [if_neg fun e => n.1 (by show p.1 ∈ _; rw [show p.1 = kv.1 from e]; exact List.mem_map.mpr ⟨kv, q, rfl⟩)]
      exact ih n.2 q
theorem kv_lki {r : List (Int × Value)} {F : Fcs} (x : KvR X h r F) (i : Int) : (lki i F.d).isSome = (valueAt r i).isSome := by
  induction x with
  | nil => rfl
  | @cons j s v r F a b ih =>
    rw [valueAt_cons]
    show (if i = Int.ofNat j then some s.d else lki i F.d).isSome = _
    by_cases e : i = Int.ofNat j
    · rw [if_pos e, if_pos e.symm]; rfl
    · rw [if_neg e, if_neg fun z => e z.symm]; exact ih
theorem rep_fac {x dsh : Addr} {kvs : List (Int × Value)} {F : Fcs} (hf : FacBase X.cf h x dsh) (hm : h.DictOf (intKind X.prog X.w) dsh kvs) (kv : KvR X h kvs F) : Rep X h (.ref x) (.fac F.d) := by
  have hnd : (kvs.map (·.1)).Nodup := let ⟨_, _, _, _, _, _, _, _, n⟩ := hm; n
  refine FcA.fac (f := valueAt kvs) (g := fun i => (valueAt kvs i).getD .none) hf hm.mapOf (fun i d e => ?_) (fun i e => ?_) (kv_rpi kv fun p q => by rw [valueAt_mem hnd p q]; rfl)
  · have := kv_lki kv i
    rw [e] at this
    cases z : valueAt kvs i with
    | none => rw [z] at this; cases this
    | some v => rfl
  · have := kv_lki kv i
    rw [e] at this
    cases z : valueAt kvs i with
    | none => rfl
    | some v => rw [z] at this; cases this
end
section
variable {prog : Program} {w : World} {A : Around} {s : Shared} {env : Env} {L cw cm aw ac va dsh : Addr} {mg mb m : Str → Option Value} {s0 : Heap}
theorem gl_c {x : Str} {a : Addr} (B : Bs (KH w) mg mb s0) {h : Heap} (old : s0.StaysIn h) (e : nsIn (KH w) mainGlobals x = some (some (.ref a))) : GlobAt h x (.ref a) :=
  .inl ⟨mg, B.g.keeps old, mg_of B.K B.g e⟩
theorem w4 {hb : ∀ x : Str, x ≠ "__name__" → mb x = bootBuiltins x} {V : List Int} {F : Fcs} {σ : Sg} {Z : Flow → Shared → Prop} (B : Bs (KH w) mg mb s0) (hA : AOk A 14) (e : LEnv env L cw cm)
    (x : LI (lawPre KH prog w aw ac mg hb).toWd s0 L cw cm va dsh [] V F σ s.heap) (c : Con V F) (hl : 3 ≤ V.length)
    (h : ∀ (h' : Heap) (tk : Nat), s0.StaysIn h' → Z (.ret (.bool true)) { s with heap := h', toks := tk }) :
    wpAny (model prog w) A (execs (nb452.1.drop 3) env) Z NoE s := by
  obtain ⟨hh, g, d, tk0, os⟩ := s
  dsimp only at *
  obtain ⟨m, hn, e1, e2⟩ := x.fr
  have N := x.ln
  have depth := hA.depth
  refine wpAny_execs_cons (wpAny_Assign_Name ?_ (by rfl))
  refine Call_Name rfl (lw_glob e.kind (e.names _ _ rfl) e.glob e.bui rfl (gl_c B x.old (kit.gFac w)) ?_)
  refine callWith_K (h₀ := s0) B.K (kit.fac w).keep (spliced_more (Call_Name rfl (lw_glob e.kind (e.names _ _ rfl) e.glob e.bui rfl (gl_c B x.old (kit.gLas w)) ?_)))
  refine callWith_K (h₀ := s0) B.K (kit.las w).keep (spliced_more (wpAny_Dict_empty (spliced_more (lw_loc e (by rfl) (by rfl) (hn.keeps (stays_push _)) e2 (spliced_none ⟨B.K.keeps fun b o q => stays_push _ _ _ (x.old _ _ q), wpAny_call ?_⟩)))))
  have st1 : hh.StaysIn (hh.push { cls := .type "dict", data := .dict #[] }) := stays_push _
  have old1 : s0.StaysIn (hh.push { cls := .type "dict", data := .dict #[] }) := fun b o q => st1 _ _ (x.old _ _ q)
  refine make_las (s := ⟨hh.push { cls := .type "dict", data := .dict #[] }, g, d, tk0, os⟩) (B.K.keeps old1) (B.nl.keeps old1) (by (first | lia | omega)) fun h2 tk2 xl dxl esl nl st2 _ _ l1 l2 l3 l4 => ?_
  have old2 : s0.StaysIn h2 := fun b o q => st2 _ _ (old1 _ _ q)
  refine spliced_none ⟨B.K.keeps old2, wpAny_call ?_⟩
  refine make_fac (s := ⟨h2, g, d, tk2, os⟩) (B.K.keeps old2) (B.nl.keeps old2) (by (first | lia | omega)) l1 l2 l3 l4 x.dS (let ⟨o, _, _, ho, _⟩ := B.g; ⟨o, old2 _ _ ho⟩) fun h3 tk3 xf st3 hf => ?_
  have st : hh.StaysIn h3 := fun b o q => st3 _ _ (st2 _ _ (st1 _ _ q))
  have y := x.grow st
  have hf := hf [aw, L, cm] fun a q => by
    have := (x.grow (fun b o q => st2 _ _ (st1 _ _ q))).callLive
    rcases List.mem_cons.mp q with rfl | q
    · exact this _ (.head _)
    rcases List.mem_cons.mp q with rfl | q
    · exact this _ (.tail _ (.head _))
    · rw [List.mem_singleton.mp q]; exact this _ (.tail _ (.tail _ (.tail _ (.head _))))
  show wpAny (model prog w) A (storeName env nFacts (.ref xf)) _ _ _
  refine wpAny_storeName_local (e.names _ _ rfl) (e.loc ▸ hn.keeps st) (fun h4 hn4 hs4 => ?_) (by rw [e.kind]; rfl)
  rw [e.loc] at hn4 hs4
  have z := y.setL hs4 hn4 ((if_neg (by decide)).trans e1) ((if_neg (by decide)).trans e2)
  have hf4 : FacBase 345 (hideAll h4 [aw, L, cm]) xf dsh := hf.keeps (hid_one (a := L) (.tail _ (.head _)) fun b o n q => (hs4.2 b n).trans q)
  obtain ⟨vs, hvs, rvs⟩ := z.vals
  have hz := z.size hvs
  have c9 := c.len
  refine wpAny_execs_cons (wpAny_Assign_Name ?_ (by rfl))
  refine Call_Name rfl (lw_glob e.kind (e.names _ _ rfl) e.glob e.bui rfl (gl_b (hb := hb) B z.old (b := .len) rfl) ?_)
  refine callWith_builtin rfl (evalArgs_plain (spliced_cons (lw_loc e (by rfl) (by rfl) hn4 ((if_neg (by decide)).trans e1) (spliced_nil (len_list hvs.isList (by (first | lia | omega)) ?_)))))
  refine wpAny_storeName_cell e.kind (e.names _ _ rfl) e.cm z.hcm fun h5 hc5 hs5 => ?_
  dsimp only at hs5 ⊢
  have k5 : ∀ b o, b ≠ cm → h4.get? b = some o → h5.get? b = some o := fun b o n q => (hs5.2 b n).trans q
  have hcm : cm ∈ hidV (lawPre KH prog w aw ac mg hb).toWd L cw cm va dsh [] := .tail _ (.tail _ (.tail _ (.tail _ (.head _))))
  have fz := hid_one hcm k5
  have fz2 : (hideAll h5 (hidV (lawPre KH prog w aw ac mg hb).toWd L cw cm va dsh [])).StaysIn (hideAll h5 [aw, L]) := hideAll_sub h5 fun a q => by
    rcases List.mem_cons.mp q with rfl | q
    · exact .tail _ (.head _)
    · rw [List.mem_singleton.mp q]; exact .tail _ (.tail _ (.head _))
  have fzc : (hideAll h4 [aw, L, cm]).StaysIn (hideAll h5 [aw, L]) := fun b o q => hideAll_get _ (k5 b o (fun z => not_hid q (z ▸ .tail _ (.tail _ (.head _)))) (of_hideAll _ q)) fun z => not_hid q (by
    rcases List.mem_cons.mp z with z | z
    · exact z ▸ .head _
    · exact List.mem_singleton.mp z ▸ .tail _ (.head _))
  have N4 := z.ln
  have old5 : s0.StaysIn h5 := fun b o q => k5 b o (ne_none q (z.new _ hcm)) (z.old b o q)
  have hn5 := hn4.at fun o => k5 L o (Ne.symm N4.mL)
  obtain ⟨kvs, hm4, kv4⟩ := z.shp
  have eok := lenv_ok e [(nWell, .wel), (nMany, .int (Int.ofNat V.length))]
  have st5 : St (lawCfg KH prog w aw ac mg hb) (lawFm env L [(nWell, .wel), (nMany, .int (Int.ofNat V.length))]) [aw, L] [(nValues, .lst (V.map D.int)), (nFacts, .fac F.d)] σ h5 := by
    refine ⟨B.keeps (old_hid old5 fun a q => z.new a ?_), fun a q => ?_, ⟨_, hn5, fun y dd q => ?_⟩, fun y dd q => ?_, fun y dd q => ?_, z.well.move (fun b o q => fz2 _ _ (fz _ _ q)) fun o => k5 _ o (Ne.symm N4.awm)⟩
    · rcases List.mem_cons.mp q with rfl | q
      · exact .tail _ (.head _)
      · rw [List.mem_singleton.mp q]; exact .tail _ (.tail _ (.head _))
    · rcases List.mem_cons.mp q with rfl | q
      · obtain ⟨o, ho⟩ := Option.isSome_iff_exists.mp (well_live z.well)
        exact some_live (k5 _ o (Ne.symm N4.awm) ho)
      · rw [List.mem_singleton.mp q]; exact ns_live hn5
    · rcases ne_of_lk q with ⟨rfl, q⟩ | ⟨_, q⟩
      · cases q
        obtain ⟨k, hk⟩ := id hvs
        exact .mk (.ref va) ((if_neg (by decide)).trans e1) (.lst (by (first | lia | omega)) ⟨_, hideAll_get _ (k5 _ _ (Ne.symm N4.mva) hk) (no2 z.vaw N4.vL), rfl, _, rfl⟩ (ints_rep rvs))
      · rcases ne_of_lk q with ⟨rfl, q⟩ | ⟨_, q⟩
        · cases q
          refine .mk (.ref xf) (if_pos rfl) (rep_fac (hf4.keeps fzc) (hm4.at fun o q => ?_) ((kv4.keeps fz).keeps fz2))
          exact hideAll_get _ (k5 _ _ N4.dm q) (no2 N4.daw z.dL)
        · cases q
    · rcases ne_of_lk q with ⟨rfl, q⟩ | ⟨_, q⟩
      · rfl
      · rcases ne_of_lk q with ⟨rfl, q⟩ | ⟨_, q⟩
        · rfl
        · cases q
    · rcases ne_of_lk q with ⟨rfl, q⟩ | ⟨_, q⟩
      · cases q
        obtain ⟨oc, hoc, hdc⟩ := z.hcw
        have hwm : cw ≠ cm := fun q => by
          obtain ⟨oc', hoc', hdc'⟩ := z.hcm
          rw [q, hoc'] at hoc; cases hoc; rw [hdc'] at hdc; cases hdc
        exact .mk cw oc (.ref aw) e.cw (.inl (e.names _ _ rfl)) rfl rfl (hideAll_get _ (k5 _ _ hwm hoc) (no2 N4.awc N4.cL)) hdc .wel
      · rcases ne_of_lk q with ⟨rfl, q⟩ | ⟨_, q⟩
        · cases q
          obtain ⟨oc, hoc, hdc⟩ := hc5
          exact .mk cm oc _ e.cm (.inl (e.names _ _ rfl)) rfl rfl (hideAll_get _ hoc (no2 N4.awm N4.mL)) hdc (by rw [hz]; exact .int _ _)
        · cases q
  refine wpAny_mono ((snds_all (C := lawCfg KH prog w aw ac mg hb) hA 60).2 (F := lawFm env L [(nWell, .wel), (nMany, .int (Int.ofNat V.length))]) (vc_law V F c c.w ⟨hl, c9⟩ σ z.inv) ⟨eok, .head _, .tail _ (.head _), N4.awL, st5⟩) (fun fl s' q => ?_) fun _ _ z => z
  have fin : ∀ {tk : Nat} {s' : Shared}, Step aw L ⟨h5, g, d, tk, os⟩ s' → Z (.ret (.bool true)) s' := fun {tk s'} sp => by
    have sm := sp.same
    obtain ⟨h6, g6, d6, tk6, os6⟩ := s'
    cases sm
    exact h h6 tk6 fun b o q => sp.keep b o (no2 (ne_none q (z.new _ (.tail _ (.head _)))) (ne_none q (z.new _ (.tail _ (.tail _ (.head _)))))) (old5 b o q)
  cases q with
  | next ρ' σ' hq st' sp => cases hq
  | ret d' σ' ρ' hq rv st' sp =>
    cases hq
    cases rv
    exact fin sp
end
end Mine.Internal

end
section
open PySem PySem.W PyProof.Rows PySem.Calls
set_option Elab.async false
set_option tactic.hygienic false
set_option maxRecDepth 100000
set_option maxHeartbeats 4000000
set_option linter.all false
set_option genSizeOf false
set_option genInjectivity false
set_option backward.match.sparseCases false
set_option bootstrap.genMatcherCode false
namespace Mine.Internal
variable {KH : World → Frag} [kit : Kit KH]
section
variable {prog : Program} {w : World} {A : Around} {s : Shared} {mg mb : Str → Option Value}
theorem law_call {R : Result → Shared → Prop} {l : Addr} {vs : List Value} {ns : List Int} (B : Bs (KH w) mg mb s.heap) (hb : ∀ x : Str, x ≠ "__name__" → mb x = bootBuiltins x) (hA : AOk A 15) (hl : s.heap.IsList l vs.toArray) (hI : IntsAre vs ns) (hlen : vs.length ≤ 63)
    (h : ∀ (h' : Heap) (tk : Nat), s.heap.StaysIn h' → R (.ok (.ret (.bool true))) { s with heap := h', toks := tk }) : codeAny (model prog w) A (.call (.ref 450) ⟨[.ref l], []⟩) R s := by
  cases kit.f450 w with | mk ob nm pars =>
  cases ob with | mk o fd ho hd hb' hclo hgl hbu hcode hco hgen hk hnm hbind =>
  have hkl : ∀ x, fd.scope.names.lookup x = lk x nn452.1 := fun x => by rw [hnm, lk_lookup]
  refine codeAny_call_cells (binds := [(nScript, .ref l)]) (Nat.lt_trans (by have := hA.depth; (first | lia | omega) : A.depth < 900) (by decide)) (B.K _ _ ho) hd B.nl (codeRec_of B.K hcode) hb' (hbind [.ref l] rfl) hclo (fun x hx => .inl ?_) (fun s₁ x => ?_) hco hgen hk
  · rw [hkl, List.mem_singleton.mp hx]; rfl
  obtain ⟨h₁, tk, rfl, keep⟩ := x.done
  generalize hLe : s.heap.objs.size = L at *
  have hLn : s.heap.get? L = none := Heap.get?_none_of_le (by rw [hLe]; exact Nat.le_refl _)
  have hkind : ∀ y, (callEnvC fd L 450).kindOf y = lk y nn452.1 := fun y => hkl y
  have hns := x.toInCall.ns
  rw [bindL_upd hkind] at hns
  have hcw : (callEnvC fd L 450).cells.lookup nWell = some (L + 1) := by
    show (cellsFrom (L + 1) fd.scope.names []).lookup nWell = _
    rw [hnm]; rfl
  have hcm : (callEnvC fd L 450).cells.lookup nMany = some (L + 2) := by
    show (cellsFrom (L + 1) fd.scope.names []).lookup nMany = _
    rw [hnm]; rfl
  have cw := x.cell _ _ hcw
  have cm := x.cell _ _ hcm
  rw [bindC_upd hkind] at cw cm
  have e : LEnv (callEnvC fd L 450) L (L + 1) (L + 2) := ⟨hk, rfl, hgl, hbu, fun y k q => (hkind y).trans q, hcw, hcm⟩
  have hA' : AOk (A.deeper (callEnvC fd L 450)) 14 := ⟨hA.handled, by have := hA.depth; show A.depth + 1 + 14 < 900; (first | lia | omega), by have := hA.units; rw [Around.deeper_units]; (first | lia | omega)⟩
  have st1 : s.heap.StaysIn h₁ := fun b o q => keep b o q
  have up : ∀ b, L ≤ b → s.heap.get? b = none := fun b hb => Heap.get?_none_of_le (by rw [hLe]; exact hb)
  refine wpAny_mono (E := NoE) (w1 (s := { s with heap := h₁, toks := tk }) hA'.handled e (B.keeps st1) hb hns (by rfl) (isList_keeps hl st1) hI hlen cw fun h2 tk2 aw ac ys t1 t2 xs k1 hcw2 haw hac n1 n2 hne hP hxs => ?_) (fun _ _ q => q) fun _ _ z => z.elim
  dsimp only at *
  have old2 : s.heap.StaysIn h2 := fun b o q => k1 b o (ne_none q (up _ (Nat.le_succ _))) (st1 b o q)
  have nl : (L : Nat) ≠ L + 1 := by (first | lia | omega)
  have nm2 : (L + 2 : Nat) ≠ L + 1 := by (first | lia | omega)
  have none1 : ∀ {b : Addr}, h₁.get? b = none → s.heap.get? b = none := fun n => none_of st1 n
  refine w2 (s := { s with heap := h2, toks := tk2 }) (hb := hb) B hA' e (fun a q => ?_) old2 (hns.at fun o => k1 L o nl) hcw2 (let ⟨o, ho, hd⟩ := cm; ⟨o, k1 _ _ nm2 ho, hd⟩) haw hac hne hP hxs fun h3 tk3 va dsh V σ x3 hV hV3 => ?_
  · rcases List.mem_cons.mp q with rfl | q
    · exact none1 n1
    rcases List.mem_cons.mp q with rfl | q
    · exact hLn
    rcases List.mem_cons.mp q with rfl | q
    · exact up _ (Nat.le_succ _)
    rcases List.mem_cons.mp q with rfl | q
    · exact up _ (by (first | lia | omega))
    · rw [List.mem_singleton.mp q]; exact none1 n2
  dsimp only
  refine w3 (s := { s with heap := h3, toks := tk3 }) B hA' e x3 hV hV3 fun h4 tk4 V F σ x4 c hl4 => ?_
  dsimp only
  exact w4 (s := { s with heap := h4, toks := tk4 }) B hA' e x4 c hl4 fun h5 tk5 old => h h5 tk5 old
theorem law_go {hp : Params → Frag} (k : Kit fun w => hp w.params) {R : Result → Shared → Prop} {l : Addr} {vs : List Value} {ns : List Int} (B : Bs (hp w.params) mg mb s.heap) (hb : ∀ x : Str, x ≠ "__name__" → mb x = bootBuiltins x) (hl : s.heap.IsList l vs.toArray) (hI : IntsAre vs ns) (hlen : vs.length ≤ 63)
    (h : ∀ (h' : Heap) (tk : Nat), s.heap.StaysIn h' → R (.ok (.ret (.bool true))) { s with heap := h', toks := tk }) : codeAny (model prog w) callerA (.call (.ref 450) ⟨[.ref l], []⟩) R s :=
  law_call (KH := fun w => hp w.params) B hb aok_caller hl hI hlen h
end
end Mine.Internal

end
section
open PySem PySem.W PyProof.Rows
set_option Elab.async false
set_option maxRecDepth 100000
set_option maxHeartbeats 8000000
set_option linter.all false
set_option backward.match.sparseCases false
set_option bootstrap.genMatcherCode false
namespace Mine.Internal
-- The head would lay a twin lemma for each of its pieces (72 MB compiled). Where the name of a twin is taken it goes without: so these.
theorem top.tw81772323286808114 : True := trivial
theorem top.tw1270794633727948117 : True := trivial
theorem top.tw16758545776426970997 : True := trivial
theorem top.tw2543627671641297764 : True := trivial
theorem top.tw9629323845154466031 : True := trivial
theorem top.tw11942759146423067011 : True := trivial
theorem top.tw5623062341943897314 : True := trivial
theorem top.tw3973854388979629583 : True := trivial
theorem top.tw17777916959871664341 : True := trivial
theorem top.tw9709091215978847155 : True := trivial
theorem top.tw6601750361064331753 : True := trivial
theorem top.tw4561158844671109056 : True := trivial
theorem top.tw3951318577535127796 : True := trivial
theorem top.tw13152269167729381717 : True := trivial
theorem top.tw15829578809876464852 : True := trivial
theorem top.tw14575427462598034316 : True := trivial
theorem top.tw16606018177974863750 : True := trivial
theorem top.tw9184783938667141480 : True := trivial
theorem top.tw774531465980340394 : True := trivial
theorem top.tw5616788035221139965 : True := trivial
theorem top.tw9263980581303461995 : True := trivial
theorem top.tw16382779569389352660 : True := trivial
theorem top.tw13974102769003797688 : True := trivial
theorem top.tw3715125932595375261 : True := trivial
theorem top.tw1574084805800157497 : True := trivial
theorem top.tw7857265422502025840 : True := trivial
theorem top.tw15977480423014482849 : True := trivial
theorem top.tw3551524653944770996 : True := trivial
theorem top.tw1303878090942913342 : True := trivial
theorem top.tw9492194172350234375 : True := trivial
theorem top.tw16970404784129113309 : True := trivial
theorem top.tw18210048539170123236 : True := trivial
theorem top.tw3737092827008854417 : True := trivial
theorem top.tw5601020203958228312 : True := trivial
theorem top.tw18274995345050041057 : True := trivial
theorem top.tw665305837562067500 : True := trivial
theorem top.tw13065438765151665677 : True := trivial
theorem top.tw16755758252483531876 : True := trivial
theorem top.tw2150884806941865527 : True := trivial
theorem top.tw1203166784366547658 : True := trivial
theorem top.tw17839812397989569199 : True := trivial
theorem top.tw14316322753584727097 : True := trivial
theorem top.tw14060043875824209832 : True := trivial
theorem top.tw2952970861071799623 : True := trivial
theorem top.tw3037773497552543465 : True := trivial
theorem top.tw12723028607798881187 : True := trivial
theorem top.tw11703342129477988011 : True := trivial
theorem top.tw5913804267149470210 : True := trivial
theorem top.tw42793657362422438 : True := trivial
theorem top.tw11813432439359262595 : True := trivial
theorem top.tw17490801551658302231 : True := trivial
theorem top.tw11469050921845970758 : True := trivial
theorem top.tw10271058457205765910 : True := trivial
theorem top.tw15159364618328049734 : True := trivial
theorem top.tw15579232420888848282 : True := trivial
theorem top.tw2209874402419351372 : True := trivial
theorem top.tw9201169265375263813 : True := trivial
theorem top.tw6408720363846547216 : True := trivial
theorem top.tw18178861665737757065 : True := trivial
theorem top.tw10184159751828612529 : True := trivial
theorem top.tw15963853514978570729 : True := trivial
theorem top.tw10150841575051346588 : True := trivial
theorem top.tw3297499882803015 : True := trivial
theorem top.tw15995848149167271659 : True := trivial
theorem top.tw5818288852761326319 : True := trivial
theorem top.tw5137989725947311808 : True := trivial
theorem top.tw9752777256038598857 : True := trivial
theorem top.tw16302189405121905674 : True := trivial
theorem top.tw5636914816737475253 : True := trivial
theorem top.tw16135901030857960676 : True := trivial
theorem top.tw989652509829861335 : True := trivial
theorem top.tw3574701951366801553 : True := trivial
theorem top.tw6017799029537352875 : True := trivial
theorem top.tw5534654762937032736 : True := trivial
theorem top.tw16266046182406567281 : True := trivial
theorem top.tw3117993477848601539 : True := trivial
theorem top.tw11572111180275214355 : True := trivial
theorem top.tw15351123407209332890 : True := trivial
theorem top.tw13362638003374514776 : True := trivial
theorem top.tw18124707381808123587 : True := trivial
theorem top.tw10921953879312442153 : True := trivial
theorem top.tw9515872314998021679 : True := trivial
theorem top.tw7430941349426302570 : True := trivial
theorem top.tw8399358099826777561 : True := trivial
theorem top.tw16343458017427171125 : True := trivial
theorem top.tw10094988914692631798 : True := trivial
theorem top.tw12538082347294821675 : True := trivial
theorem top.tw10374729094635567596 : True := trivial
theorem top.tw18323861492468777637 : True := trivial
theorem top.tw5020013985347907614 : True := trivial
theorem top.tw17278646547998961383 : True := trivial
theorem top.tw16670747933352122998 : True := trivial
theorem top.tw12857620731127765015 : True := trivial
theorem top.tw1435030683328542103 : True := trivial
theorem top.tw10077719338091639627 : True := trivial
theorem top.tw163912900873485975 : True := trivial
theorem top.tw14843513410248092641 : True := trivial
theorem top.tw15179066919290366404 : True := trivial
theorem top.tw5457094273938068427 : True := trivial
theorem top.tw9134760507029458494 : True := trivial
theorem top.tw1768993508556283445 : True := trivial
theorem top.tw2236196870325046451 : True := trivial
theorem top.tw4358691650285988494 : True := trivial
theorem top.tw16624992058427758950 : True := trivial
theorem top.tw2825663273701143045 : True := trivial
theorem top.tw17766975901093141987 : True := trivial
theorem top.tw814143626799000608 : True := trivial
theorem top.tw2390321738916012542 : True := trivial
theorem top.tw16999540093264088150 : True := trivial
theorem top.tw12527079761500913931 : True := trivial
theorem top.tw4902697784085184246 : True := trivial
theorem top.tw12233358624345432619 : True := trivial
theorem top.tw13150102519564119512 : True := trivial
theorem top.tw4285722769654724837 : True := trivial
theorem top.tw13338891679902144755 : True := trivial
theorem top.tw5088212886959746038 : True := trivial
theorem top.tw6484297682573714884 : True := trivial
theorem top.tw147322065944840502 : True := trivial
theorem top.tw3000297160361656104 : True := trivial
theorem top.tw14745097296005518818 : True := trivial
theorem top.tw1459965591142175206 : True := trivial
theorem top.tw15276081835806400835 : True := trivial
theorem top.tw14435649072803524601 : True := trivial
theorem top.tw17970414323024583786 : True := trivial
theorem top.tw3158895977984316927 : True := trivial
theorem top.tw16757837090424149463 : True := trivial
theorem top.tw17294258476364778673 : True := trivial
theorem top.tw10251817974646213263 : True := trivial
theorem top.tw14435743599919557079 : True := trivial
theorem top.tw11630246761538892182 : True := trivial
theorem top.tw15394327938472586014 : True := trivial
theorem top.tw2617585936269546182 : True := trivial
theorem top.tw6633638283438119252 : True := trivial
theorem top.tw7827768346438796966 : True := trivial
theorem top.tw4452900076073076820 : True := trivial
theorem top.tw11955091422985450564 : True := trivial
theorem top.tw10489881607586626982 : True := trivial
theorem top.tw15101833888819054986 : True := trivial
theorem top.tw5510773528456353374 : True := trivial
theorem top.tw11123022429692411069 : True := trivial
theorem top.tw4356378928960863874 : True := trivial
theorem top.tw9145172509365103864 : True := trivial
theorem top.tw12993393966586794319 : True := trivial
theorem top.tw11745378153367087006 : True := trivial
theorem top.tw6387474787400901895 : True := trivial
theorem top.tw9062527665077697634 : True := trivial
theorem top.tw1544470500822314514 : True := trivial
theorem top.tw1383960294148782743 : True := trivial
theorem top.tw8053444303433898870 : True := trivial
theorem top.tw4146725247025032527 : True := trivial
theorem top.tw5796386899092881402 : True := trivial
theorem top.tw6576394388358699284 : True := trivial
theorem top.tw17065051034280456960 : True := trivial
theorem top.tw15438081327507635518 : True := trivial
theorem top.tw1545173250012000341 : True := trivial
theorem top.tw24819456490665821 : True := trivial
theorem top.tw15769138564818942050 : True := trivial
theorem top.tw12745399379327383730 : True := trivial
theorem top.tw17915092718479950722 : True := trivial
theorem top.tw13296454524456485647 : True := trivial
theorem top.tw8648676592023223974 : True := trivial
theorem top.tw11453699502411093152 : True := trivial
theorem top.tw81477777580994023 : True := trivial
theorem top.tw7281760429439090794 : True := trivial
theorem top.tw2678565742616173392 : True := trivial
theorem top.tw13505688805087003895 : True := trivial
theorem top.tw9710472976345978675 : True := trivial
theorem top.tw4788095139925620210 : True := trivial
theorem top.tw16155562966025467390 : True := trivial
theorem top.tw12216943602677884022 : True := trivial
theorem top.tw17450095120196383901 : True := trivial
theorem top.tw18406190115487479641 : True := trivial
theorem top.tw18106397260369847346 : True := trivial
theorem top.tw8436750204218394681 : True := trivial
theorem top.tw12509089438165600114 : True := trivial
theorem top.tw15624169476678399799 : True := trivial
theorem top.tw3760678942998155436 : True := trivial
theorem top.tw6765633624655473283 : True := trivial
theorem top.tw18134916490591298656 : True := trivial
theorem top.tw5689479814868526312 : True := trivial
theorem top.tw8932900932440574902 : True := trivial
theorem top.tw174608929583880089 : True := trivial
theorem top.tw9613917744137337606 : True := trivial
theorem top.tw11249482418953624010 : True := trivial
theorem top.tw10209070706382725253 : True := trivial
theorem top.tw9625230811557485409 : True := trivial
theorem top.tw643457376458576901 : True := trivial
theorem top.tw2924937079759632899 : True := trivial
theorem top.tw5378089467632502573 : True := trivial
theorem top.tw2060887065158190251 : True := trivial
theorem top.tw8053313499714369516 : True := trivial
theorem top.tw3376578929244797344 : True := trivial
theorem top.tw1036537106617987570 : True := trivial
theorem top.tw17842157131605700252 : True := trivial
theorem top.tw14309398836641287207 : True := trivial
theorem top.tw12805097746503026508 : True := trivial
theorem top.tw8510952907010044682 : True := trivial
theorem top.tw967226438668809532 : True := trivial
theorem top.tw6641737377494409931 : True := trivial
theorem top.tw16671336811056675724 : True := trivial
theorem top.tw14458970266021412040 : True := trivial
theorem top.tw14351324207326088087 : True := trivial
theorem top.tw8748718884265239803 : True := trivial
theorem top.tw16274422952707480473 : True := trivial
theorem top.tw3591354053504244187 : True := trivial
theorem top.tw7169288159835523660 : True := trivial
theorem top.tw1907660154640404895 : True := trivial
theorem top.tw6473416468275681636 : True := trivial
theorem top.tw4816845256146871343 : True := trivial
theorem top.tw4452080425741557006 : True := trivial
theorem top.tw17082045657299507438 : True := trivial
theorem top.tw10510781333263205275 : True := trivial
theorem top.tw8306190787968179902 : True := trivial
theorem top.tw18305795201310230813 : True := trivial
theorem top.tw18208272045366686900 : True := trivial
theorem top.tw17508040994529338635 : True := trivial
theorem top.tw520769046583192414 : True := trivial
theorem top.tw4944772701404290157 : True := trivial
theorem top.tw6788602826054735687 : True := trivial
theorem top.tw10755204175162815595 : True := trivial
theorem top.tw6789009648750997989 : True := trivial
theorem top.tw5287847629270259684 : True := trivial
theorem top.tw286894914292673042 : True := trivial
theorem top.tw9332288820214974120 : True := trivial
theorem top.tw10253266929035873589 : True := trivial
theorem top.tw12772831399306582746 : True := trivial
theorem top.tw13979802230140247096 : True := trivial
theorem top.tw14851538216430930267 : True := trivial
theorem top.tw1354547793471785592 : True := trivial
theorem top.tw2243788991505603994 : True := trivial
theorem top.tw16980858752268031258 : True := trivial
theorem top.tw9268122148117206217 : True := trivial
theorem top.tw2216440352682232210 : True := trivial
theorem top.tw1799893150791972194 : True := trivial
theorem top.tw72480060676809745 : True := trivial
theorem top.tw10326944404527208860 : True := trivial
theorem top.tw9540439644754808120 : True := trivial
theorem top.tw3169761142097404539 : True := trivial
theorem top.tw21731952007352024 : True := trivial
theorem top.tw11847229600219399345 : True := trivial
theorem top.tw2637607930223039120 : True := trivial
theorem top.tw6032999815510171314 : True := trivial
theorem top.tw15816288610224309924 : True := trivial
theorem top.tw1256497093593410785 : True := trivial
theorem top.tw6675869478591958659 : True := trivial
theorem top.tw13612888447903221690 : True := trivial
theorem top.tw17948007346036011693 : True := trivial
theorem top.tw708343306878879310 : True := trivial
theorem top.tw9884640354352055407 : True := trivial
theorem top.tw14245419377967504630 : True := trivial
theorem top.tw5794392898259340163 : True := trivial
theorem top.tw16638610986525751341 : True := trivial
theorem top.tw8471810450847980311 : True := trivial
theorem top.tw17486517844360885448 : True := trivial
theorem top.tw66310420103869109 : True := trivial
theorem top.tw17766973420474014916 : True := trivial
theorem top.tw18075333693788313813 : True := trivial
theorem top.tw14847000312772958493 : True := trivial
theorem top.tw10967717381065908690 : True := trivial
theorem top.tw6237380944343322104 : True := trivial
theorem top.tw17761709516150232866 : True := trivial
theorem top.tw413647377535720443 : True := trivial
theorem top.tw13961821577040325202 : True := trivial
theorem top.tw17106287875927644401 : True := trivial
theorem top.tw8668963995733928498 : True := trivial
theorem top.tw823367340911138357 : True := trivial
theorem top.tw7869916644634597583 : True := trivial
theorem top.tw8432852734657383213 : True := trivial
theorem top.tw14433615092557509415 : True := trivial
theorem top.tw1989182563660835524 : True := trivial
theorem top.tw18154499757341482236 : True := trivial
theorem top.tw11543662522584853678 : True := trivial
theorem top.tw644864728859497441 : True := trivial
theorem top.tw16665263771771415289 : True := trivial
theorem top.tw342147391948764841 : True := trivial
theorem top.tw12679584841122526521 : True := trivial
theorem top.tw1215964859883860923 : True := trivial
theorem top.tw10412626644107779628 : True := trivial
theorem top.tw5477201982944387824 : True := trivial
theorem top.tw14629704432273887227 : True := trivial
theorem top.tw2847590417677406291 : True := trivial
theorem top.tw1132053622761179395 : True := trivial
theorem top.tw5562675008611855350 : True := trivial
theorem top.tw8431511291280310594 : True := trivial
theorem top.tw13576554709588866993 : True := trivial
theorem top.tw3553350837345755414 : True := trivial
theorem top.tw2539124807921467641 : True := trivial
theorem top.tw7567165803220911316 : True := trivial
theorem top.tw3944961305390188921 : True := trivial
theorem top.tw8968183131928819226 : True := trivial
theorem top.tw5304958524431188055 : True := trivial
theorem top.tw6991883505879560381 : True := trivial
theorem top.tw10733969131915476666 : True := trivial
theorem top.tw1582896215224490779 : True := trivial
theorem top.tw111691494086097341 : True := trivial
theorem top.tw5610427021895498081 : True := trivial
theorem top.tw12843083837792121615 : True := trivial
theorem top.tw7555788285894137762 : True := trivial
theorem top.tw5747984561631210852 : True := trivial
theorem top.tw15634951391265317273 : True := trivial
theorem top.tw1880862225633710185 : True := trivial
theorem top.tw13140326828786542489 : True := trivial
theorem top.tw14860063538982701497 : True := trivial
theorem top.tw14890431403400256923 : True := trivial
theorem top.tw4485443746818155958 : True := trivial
theorem top.tw7408972850765985889 : True := trivial
theorem top.tw12293448167491514632 : True := trivial
theorem top.tw13662078916789152284 : True := trivial
theorem top.tw7607171497304258000 : True := trivial
theorem top.tw1114123842598374841 : True := trivial
theorem top.tw9007187541838641408 : True := trivial
theorem top.tw5849966454334175603 : True := trivial
theorem top.tw7029149830054407918 : True := trivial
theorem top.tw1164974070002119393 : True := trivial
theorem top.tw17372380194061097867 : True := trivial
theorem top.tw5633613072895788440 : True := trivial
theorem top.tw6406678054242604970 : True := trivial
theorem top.tw11972609793873917069 : True := trivial
theorem top.tw12626598181475660440 : True := trivial
theorem top.tw6986792338942341288 : True := trivial
theorem top.tw18411503378437029776 : True := trivial
theorem top.tw11422294914085269258 : True := trivial
theorem top.tw10611451711877044877 : True := trivial
theorem top.tw3848417338562682548 : True := trivial
theorem top.tw16538046557401838581 : True := trivial
theorem top.tw5074981210616091618 : True := trivial
theorem top.tw731018301416940780 : True := trivial
theorem top.tw14696954797618552970 : True := trivial
theorem top.tw11487323097842045720 : True := trivial
theorem top.tw3346173298411247277 : True := trivial
theorem top.tw18018998308899170529 : True := trivial
theorem top.tw9941808672574154494 : True := trivial
theorem top.tw14646490398715655967 : True := trivial
theorem top.tw5961517122022696431 : True := trivial
theorem top.tw2450537168617737364 : True := trivial
theorem top.tw4285067539549903456 : True := trivial
theorem top.tw17016791072708204640 : True := trivial
theorem top.tw2991829568394987824 : True := trivial
theorem top.tw16364859902786545777 : True := trivial
theorem top.tw17437252320363192878 : True := trivial
theorem top.tw12902908538168188358 : True := trivial
theorem top.tw7996213839364585878 : True := trivial
theorem top.tw4546051625015397690 : True := trivial
theorem top.tw11450281741638035136 : True := trivial
theorem top.tw1725240627391621855 : True := trivial
theorem top.tw4935895127773558494 : True := trivial
theorem top.tw15530085555645645651 : True := trivial
theorem top.tw8729440102579201365 : True := trivial
theorem top.tw536803706853657370 : True := trivial
theorem top.tw14854695082214763653 : True := trivial
theorem top.tw12480099839092924133 : True := trivial
theorem top.tw13282128735048056922 : True := trivial
theorem top.tw12629399664659736337 : True := trivial
theorem top.tw8662787799961634674 : True := trivial
theorem top.tw12749150186008769383 : True := trivial
theorem top.tw9899525873056809382 : True := trivial
theorem top.tw3109754702775854818 : True := trivial
theorem top.tw5398779268524384093 : True := trivial
theorem top.tw15280026518775181452 : True := trivial
theorem top.tw10215241748254838605 : True := trivial
theorem top.tw9424423819971481336 : True := trivial
theorem top.tw16718771766187595327 : True := trivial
theorem top.tw14986030164187578091 : True := trivial
theorem top.tw7045792325866979410 : True := trivial
theorem top.tw13766732463716017502 : True := trivial
theorem top.tw10476705880334391977 : True := trivial
theorem top.tw17150486709102819674 : True := trivial
theorem top.tw18089494060836986335 : True := trivial
theorem top.tw4514227296345098202 : True := trivial
theorem top.tw9268385444115084606 : True := trivial
theorem top.tw12074596839219505546 : True := trivial
theorem top.tw7473103189400481370 : True := trivial
theorem top.tw5981735147869792024 : True := trivial
theorem top.tw1530202735499281544 : True := trivial
theorem top.tw18212756339726134077 : True := trivial
theorem top.tw11674742375332813423 : True := trivial
theorem top.tw14556967029381680528 : True := trivial
theorem top.tw17428317208339660896 : True := trivial
theorem top.tw1146653533374164296 : True := trivial
theorem top.tw5152142093285054322 : True := trivial
theorem top.tw16475489246628699285 : True := trivial
theorem top.tw10762427235269020296 : True := trivial
theorem top.tw12901981390630445424 : True := trivial
theorem top.tw15020181537525697202 : True := trivial
theorem top.tw17163421694645828034 : True := trivial
theorem top.tw15440083727760513396 : True := trivial
theorem top.tw1814798655366874729 : True := trivial
theorem top.tw14201795354222431000 : True := trivial
theorem top.tw7883390658026711479 : True := trivial
theorem top.tw1205300974904534110 : True := trivial
theorem top.tw6637577615778216765 : True := trivial
theorem top.tw9971715468583095047 : True := trivial
theorem top.tw9853281068212645962 : True := trivial
theorem top.tw10171357143586622507 : True := trivial
theorem top.tw16973335206017075459 : True := trivial
theorem top.tw18230934574480235579 : True := trivial
theorem top.tw11605190798462803 : True := trivial
theorem top.tw9298004865840787183 : True := trivial
theorem top.tw16472014719743838874 : True := trivial
theorem top.tw10304773355574818972 : True := trivial
theorem top.tw10787689851631817738 : True := trivial
theorem top.tw13304138325143531540 : True := trivial
theorem top.tw12049451959530864647 : True := trivial
theorem top.tw6203877030728667555 : True := trivial
theorem top.tw14918657019616035990 : True := trivial
theorem top.tw7698775170400769924 : True := trivial
theorem top.tw18292218794286455172 : True := trivial
theorem top.tw17876483852679225255 : True := trivial
theorem top.tw4403984310399581989 : True := trivial
theorem top.tw16594597127384249290 : True := trivial
theorem top.tw16978485354909116887 : True := trivial
theorem top.tw2353124483301268101 : True := trivial
theorem top.tw17100678534677701075 : True := trivial
theorem top.tw7223148041124273219 : True := trivial
theorem top.tw144367136773183799 : True := trivial
theorem top.tw10235583464736365669 : True := trivial
theorem top.tw2186587022839359540 : True := trivial
theorem top.tw7215231071663758880 : True := trivial
set_option Elab.async true in
theorem top : PySem.Challenge.rw_nm0048_01.Holds := by
    (w_on; o_law; k_head; (case hw => w_witness2))
    w_strict (
    k_fill
    intro w s₀ s₁ mg mb G Y fa o pm cd doc dV kV ho hd hcd hD hmg hg args vals as hpre hlay hrd hwl hlo
    have KX := kIn_of Y
    refine Ground.open G ?_
    intro T B D TE TW
    have q := mg_of KX T.g (n := Str.ofString "law") (v := .ref 450) rfl
    have q2 := q.symm.trans hmg
    cases q2
    try (refine guard_noD D (by decide +kernel) ?_; clear D)
    clear hd hcd hmg q ho
    have BB : Bs _ mg mb s₁.heap := ⟨KX, T.nolimit, T.g, T.b⟩
    have hb := T.builtins
    wrow_args hpre hlay hrd hwl hlo
    all_goals (
      first | refine callC_kw (enter_call ?_) | refine enter_call ?_ | refine callC_kw (enter_callW ?_) | refine enter_callW ?_ | w_how
      refine codeAny_mono ?_ (fun _ _ g => GoodW.toG g)
      rename IntsAre _ _ => hI
      rename Heap.IsList _ _ _ => hL
      refine law_go ?kit BB hb hL hI ?_ fun h' tk st => ?_
      case kit =>
        refine ⟨fun {X} {h} {mg} {mb} B hb => ?_, fun w => ?_, fun w => ?_, fun w => fo_mk rfl rfl rfl (len2 fun _ _ => rfl) rfl rfl, fun w => fo_mk rfl rfl rfl (len1 fun _ => rfl) rfl rfl, fun w => fo_mk rfl rfl rfl (len3 fun _ _ _ => rfl) rfl rfl, fun w => fo_mk rfl rfl rfl (len2 fun _ _ => rfl) rfl rfl,
          fun w => ⟨rfl, rfl, rfl, rfl, rfl, rfl, rfl⟩, fun w => ⟨rfl, rfl, rfl, rfl, rfl, rfl, rfl⟩, fun w => ⟨rfl, rfl⟩, fun w => ⟨rfl, rfl, rfl, rfl⟩, fun w => ⟨rfl, rfl, rfl, rfl, rfl⟩, fun w => rfl, fun w => rfl, fun w => ⟨rfl, rfl⟩, fun w es n name b hn hg => ?_, fun w => rfl, fun w => rfl⟩
        · unfold GL
          repeat' first
            | exact trivial
            | refine AllG.at ?_ ?_ ?_
            | exact entB_gl B hb rfl
            | exact Rep.int _ _
            | exact keysNil
            | refine keysOne ?_
            | exact dctNil
            | refine dctOne ?_ rfl ?_
            | exact RepL.nil'
            | refine RepL.cons' ?_ ?_
            | exact rep_str rfl (by decide +kernel)
            | exact rep_fn B.K rfl
            | exact Rep.tup (by decide) ⟨_, B.K _ _ rfl, rfl, _, rfl⟩ (RepL.cons' (Rep.int _ _) (RepL.cons' (Rep.int _ _) RepL.nil'))
            | refine gl_val B rfl (rep_dct B.K rfl ?_ ?_ rfl)
            | refine gl_val B rfl (Rep.tup (by decide) ⟨_, B.K _ _ rfl, rfl, _, rfl⟩ ?_)
            | refine gl_val B rfl (Rep.lst (by decide) ⟨_, B.K _ _ rfl, rfl, _, rfl⟩ ?_)
        · unfold inlT
          repeat' first
            | exact AllF.nil'
            | refine AllF.at ?_ ?_
            | exact fo_mk rfl rfl rfl (len1 fun _ => rfl) rfl rfl
            | exact fo_mk rfl rfl rfl (len2 fun _ _ => rfl) rfl rfl
            | exact fo_mk rfl rfl rfl (len3 fun _ _ _ => rfl) rfl rfl
            | exact fo_mk rfl rfl rfl (len4 fun _ _ _ _ => rfl) rfl rfl
            | exact fo_mk rfl rfl rfl (len0 rfl) rfl rfl
        · unfold outT
          repeat' first
            | exact AllF.nil'
            | refine AllF.at ?_ ?_
            | exact fo_mk rfl rfl rfl (len1 fun _ => rfl) rfl rfl
            | exact fo_mk rfl rfl rfl (len2 fun _ _ => rfl) rfl rfl
            | exact fo_mk rfl rfl rfl (len3 fun _ _ _ => rfl) rfl rfl
            | exact fo_mk rfl rfl rfl (len4 fun _ _ _ _ => rfl) rfl rfl
            | exact fo_mk rfl rfl rfl (len0 rfl) rfl rfl
        · rcases hn with rfl | rfl
          · show (getL "shapes" es).bind _ = _
            rw [hg]; rfl
          · show (getL "made" es).bind _ = _
            rw [hg]; rfl
      · have := hI.length
        rename ¬ _ => hc
        omega
      · refine ⟨.inl ⟨_, .bool true, [], rfl, fun _ => rfl, .bool true, ?_, fun _ => ⟨.nil, fun _ q => (nomatch q)⟩⟩, st, rfl, hg⟩
        first | rfl | wrow_post)
    )
end Mine.Internal

end
theorem PySem.Challenge.cw_nm0048_01_holds : PySem.Challenge.rw_nm0048_01.Holds :=
  Mine.Internal.top
