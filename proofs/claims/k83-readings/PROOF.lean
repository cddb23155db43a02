import PyProof.Rows.All
import Wide.All
import OpenK.AllK
import Wide.FinOn
import HandS.ForMost
import HandS.ForDict
import HandS.Flow
import HandS.Wide
import HandS.Gcd
import HandS.SortInts
import HandS.HeadHook2
import HandS.TupMul
import PyProof.Rows.TupAdd
import HandS.TupAny
import HandS.Style
import HandS.IsInst
import HandS.Conv
import HandS.SortRule
import KE.KTupSum
import KE.KMathG
import KE.KMathGC
import HandS.More
import KE.KRevSl
import HandS.Rev
import HandS.Zip
import PyProof.Draws
import HandS.Iter
import KE.GoesZip
import KE.GoesMore
import HandS.NoneIn
import HandS.DictComp
import HandS.HeadEnd
import HandS.HeadHook1
import HandS.Head0
import HandS.Head1
import HandS.Head2
import HandS.Head3
import PySem.Challenge.RW_gristbytides_k83_cheapest_readings
set_option Elab.async false
set_option linter.all false
set_option maxRecDepth 100000
set_option maxHeartbeats 4000000
/-! values by content -/
namespace G3
open PySem PySem.Spec PyProof.Rows L2

inductive D where
  | non | bl (b : Bool) | int (i : Int) | str (x : Str) | tup (l : List D) | kt (l : List D) | cl (l : List D) | ref (a : Addr) | ty (n : String)

/-- a list that never changes: locked for good, or the module's own -/
def SqC (K : PySem.W.Frag) (H : Hp) (a : Addr) (xs : List V) : Prop :=
  (∃ o, H a = some (.frz o (.lst xs))) ∨
    ∃ (o : Obj) (its : Array Value) (n : Nat), K.lookup a = some o ∧ o.cls = .type "list" ∧ o.dict = none ∧ o.data = .seq its n ∧ its.size ≤ sizeLine ∧ Vals xs its.toList
theorem SqC.l {K : PySem.W.Frag} {H : Hp} {a : Addr} {xs : List V} (h : SqC K H a xs) : SqL K H a xs := by
  rcases h with ⟨o, h⟩ | h
  · exact .inl (.inr ⟨o, h⟩)
  · exact .inr h

mutual
inductive Rep (K : PySem.W.Frag) (H : Hp) : V → D → Prop
  | non : Rep K H .non .non
  | bl (b : Bool) : Rep K H (.bl b) (.bl b)
  | int (i : Int) : Rep K H (.int i) (.int i)
  | str (x : Str) : Rep K H (.str x) (.str x)
  | ty (n : String) : Rep K H (.ty n) (.ty n)
  | ref (a : Addr) : Rep K H (.ref a) (.ref a)
  | tup {a : Addr} {xs : List V} {ds : List D} : SqT K H a xs → Reps K H xs ds → Rep K H (.ref a) (.tup ds)
  | kt {a : Addr} {xs : List V} {ds : List D} : H a = some (.tup xs) → Reps K H xs ds → Rep K H (.ref a) (.kt ds)
  | cl {a : Addr} {xs : List V} {ds : List D} : SqC K H a xs → Reps K H xs ds → Rep K H (.ref a) (.cl ds)
inductive Reps (K : PySem.W.Frag) (H : Hp) : List V → List D → Prop
  | nil : Reps K H [] []
  | cons {v : V} {vs : List V} {d : D} {ds : List D} : Rep K H v d → Reps K H vs ds → Reps K H (v :: vs) (d :: ds)
end

/-- tuples and lists that never change stand as they stood -/
structure Grow (K : PySem.W.Frag) (H H' : Hp) : Prop where
  tup : ∀ a xs, SqT K H a xs → SqT K H' a xs
  cl : ∀ a xs, SqC K H a xs → SqC K H' a xs
  tt : ∀ a xs, H a = some (.tup xs) → H' a = some (.tup xs)
section
variable {K : PySem.W.Frag} {H H1 H2 H' : Hp}
theorem Grow.refl : Grow K H H := ⟨fun _ _ h => h, fun _ _ h => h, fun _ _ h => h⟩
theorem Grow.trans (a : Grow K H H1) (b : Grow K H1 H2) : Grow K H H2 := ⟨fun _ _ h => b.tup _ _ (a.tup _ _ h), fun _ _ h => b.cl _ _ (a.cl _ _ h), fun _ _ h => b.tt _ _ (a.tt _ _ h)⟩
/-- a store to what is no tuple and not locked -/
theorem Grow.upd {p : Addr} {o : HO} (h : ∀ u, H p = some u → (∀ xs, u ≠ .tup xs) ∧ ∀ ob w, u ≠ .frz ob w) : Grow K H (upd H p o) := by
  have ne : ∀ a u, H a = some u → (∃ xs, u = .tup xs) ∨ (∃ ob w, u = .frz ob w) → a ≠ p := fun a u e k z => by
    subst z
    rcases k with ⟨xs, k⟩ | ⟨ob, w, k⟩
    · exact (h u e).1 xs k
    · exact (h u e).2 ob w k
  refine ⟨fun a xs q => ?_, fun a xs q => ?_, fun a xs q => by rw [upd_ne (ne a _ q (.inl ⟨_, rfl⟩))]; exact q⟩
  · rcases q with (q | ⟨ob, q⟩) | q
    · exact .inl (.inl (by rw [upd_ne (ne a _ q (.inl ⟨_, rfl⟩))]; exact q))
    · exact .inl (.inr ⟨ob, by rw [upd_ne (ne a _ q (.inr ⟨_, _, rfl⟩))]; exact q⟩)
    · exact .inr q
  · rcases q with ⟨ob, q⟩ | q
    · exact .inl ⟨ob, by rw [upd_ne (ne a _ q (.inr ⟨_, _, rfl⟩))]; exact q⟩
    · exact .inr q
theorem Grow.new {p : Addr} {o : HO} (h : H p = none) : Grow K H (L2.upd H p o) := Grow.upd fun u e => by rw [h] at e; cases e
theorem Grow.lst {p : Addr} {o : HO} {xs : List V} (h : H p = some (.lst xs)) : Grow K H (L2.upd H p o) := Grow.upd fun u e => by
  rw [h] at e; cases e
  exact ⟨fun _ => by simp, fun _ _ => by simp⟩
theorem Grow.dT {p : Addr} {o : HO} {xs : List (List Key × V)} (h : H p = some (.dT xs)) : Grow K H (L2.upd H p o) := Grow.upd fun u e => by
  rw [h] at e; cases e
  exact ⟨fun _ => by simp, fun _ _ => by simp⟩
theorem Grow.dK {p : Addr} {o : HO} {xs : List (Key × V)} (h : H p = some (.dK xs)) : Grow K H (L2.upd H p o) := Grow.upd fun u e => by
  rw [h] at e; cases e
  exact ⟨fun _ => by simp, fun _ _ => by simp⟩
mutual
theorem Rep.mono (g : Grow K H H') : ∀ {v : V} (d : D), Rep K H v d → Rep K H' v d
  | _, .non, h => by cases h; exact .non
  | _, .bl b, h => by cases h; exact .bl b
  | _, .int i, h => by cases h; exact .int i
  | _, .str x, h => by cases h; exact .str x
  | _, .ty n, h => by cases h; exact .ty n
  | _, .ref a, h => by cases h; exact .ref a
  | _, .tup l, h => by
    cases h with
    | tup s r => exact .tup (g.tup _ _ s) (Reps.mono g l r)
  | _, .kt l, h => by
    cases h with
    | kt s r => exact .kt (g.tt _ _ s) (Reps.mono g l r)
  | _, .cl l, h => by
    cases h with
    | cl s r => exact .cl (g.cl _ _ s) (Reps.mono g l r)
theorem Reps.mono (g : Grow K H H') : ∀ {vs : List V} (ds : List D), Reps K H vs ds → Reps K H' vs ds
  | _, [], h => by cases h; exact .nil
  | _, d :: ds, h => by
    cases h with
    | cons r rs => exact .cons (Rep.mono g d r) (Reps.mono g ds rs)
end
theorem Reps.length : ∀ {vs : List V} {ds : List D}, Reps K H vs ds → vs.length = ds.length
  | _, [], h => by cases h; rfl
  | _, d :: ds, h => by
    cases h with
    | cons r rs => simp [Reps.length rs]
theorem Reps.get : ∀ {vs : List V} {ds : List D} {i : Nat} {d : D}, Reps K H vs ds → ds[i]? = some d → ∃ v, vs[i]? = some v ∧ Rep K H v d
  | _, [], _, _, _, e => by simp at e
  | _, d :: ds, 0, d', h, e => by
    cases h with
    | cons r rs =>
      simp at e; subst e
      exact ⟨_, rfl, r⟩
  | _, d :: ds, i + 1, d', h, e => by
    cases h with
    | cons r rs =>
      obtain ⟨v, e', r'⟩ := Reps.get (i := i) rs (by simpa using e)
      exact ⟨v, by simpa using e', r'⟩
theorem Reps.get' : ∀ {vs : List V} {ds : List D} {i : Nat} {v : V}, Reps K H vs ds → vs[i]? = some v → ∃ d, ds[i]? = some d ∧ Rep K H v d := fun {vs ds i v} r e => by
  have hl := r.length
  have hi : i < vs.length := (List.getElem?_eq_some_iff.mp e).1
  have hd : ds[i]? = some ds[i] := List.getElem?_eq_getElem (by omega)
  obtain ⟨w, e2, r2⟩ := r.get hd
  rw [e] at e2
  cases e2
  exact ⟨_, hd, r2⟩
theorem Reps.append : ∀ {vs ws : List V} {ds es : List D}, Reps K H vs ds → Reps K H ws es → Reps K H (vs ++ ws) (ds ++ es)
  | _, _, [], _, h, k => by cases h; exact k
  | _, _, d :: ds, _, h, k => by
    cases h with
    | cons r rs => exact .cons r (Reps.append rs k)
theorem Reps.take : ∀ {vs : List V} {ds : List D} (n : Nat), Reps K H vs ds → Reps K H (vs.take n) (ds.take n)
  | _, _, 0, _ => .nil
  | _, [], n + 1, h => by cases h; exact .nil
  | _, d :: ds, n + 1, h => by
    cases h with
    | cons r rs => exact .cons r (Reps.take n rs)
theorem Reps.drop : ∀ {vs : List V} {ds : List D} (n : Nat), Reps K H vs ds → Reps K H (vs.drop n) (ds.drop n)
  | _, _, 0, h => h
  | _, [], n + 1, h => by cases h; exact .nil
  | _, d :: ds, n + 1, h => by
    cases h with
    | cons r rs => exact Reps.drop n rs
theorem Reps.set {v : V} {d : D} (r : Rep K H v d) : ∀ {vs : List V} {ds : List D} (n : Nat), Reps K H vs ds → Reps K H (vs.set n v) (ds.set n d)
  | _, [], _, h => by cases h; exact .nil
  | _, _ :: _, 0, h => by
    cases h with
    | cons _ rs => exact .cons r rs
  | _, _ :: _, n + 1, h => by
    cases h with
    | cons r' rs => exact .cons r' (Reps.set r n rs)
theorem Reps.snoc {vs : List V} {ds : List D} {v : V} {d : D} (h : Reps K H vs ds) (r : Rep K H v d) : Reps K H (vs ++ [v]) (ds ++ [d]) := h.append (.cons r .nil)
theorem Reps.reverse : ∀ {vs : List V} {ds : List D}, Reps K H vs ds → Reps K H vs.reverse ds.reverse
  | _, [], h => by cases h; exact .nil
  | _, d :: ds, h => by
    cases h with
    | cons r rs => rw [List.reverse_cons, List.reverse_cons]; exact (Reps.reverse rs).snoc r
theorem Reps.dropLast {vs : List V} {ds : List D} (h : Reps K H vs ds) : Reps K H vs.dropLast ds.dropLast := by
  rw [List.dropLast_eq_take, List.dropLast_eq_take, h.length]; exact h.take _
theorem Reps.erase : ∀ {vs : List V} {ds : List D} (n : Nat), Reps K H vs ds → Reps K H (vs.eraseIdx n) (ds.eraseIdx n)
  | _, [], _, h => by cases h; exact .nil
  | _, _ :: _, 0, h => by
    cases h with
    | cons _ rs => exact rs
  | _, _ :: _, n + 1, h => by
    cases h with
    | cons r' rs => exact .cons r' (Reps.erase n rs)
theorem Reps.insert {v : V} {d : D} (r : Rep K H v d) : ∀ {vs : List V} {ds : List D} (n : Nat), Reps K H vs ds → Reps K H (vs.insertIdx n v) (ds.insertIdx n d)
  | _, _, 0, h => by simpa using .cons r h
  | _, [], n + 1, h => by cases h; simpa using .nil
  | _, _ :: _, n + 1, h => by
    cases h with
    | cons r' rs => simpa using .cons r' (Reps.insert r n rs)
theorem Reps.ints : ∀ {vs : List V} {ns : List Int}, Reps K H vs (ns.map D.int) → vs = ns.map V.int
  | _, [], h => by cases h; rfl
  | _, n :: ns, h => by
    cases h with
    | cons r rs => cases r; rw [Reps.ints rs]; rfl
theorem Reps.of_ints : ∀ (ns : List Int), Reps K H (ns.map V.int) (ns.map D.int)
  | [] => .nil
  | n :: ns => .cons (.int n) (Reps.of_ints ns)
theorem Reps.bls : ∀ {vs : List V} {ns : List Bool}, Reps K H vs (ns.map D.bl) → vs = ns.map V.bl
  | _, [], h => by cases h; rfl
  | _, n :: ns, h => by
    cases h with
    | cons r rs => cases r; rw [Reps.bls rs]; rfl

/-! ### the heap by content -/
inductive MO where
  | lst (l : List D)
  | dic (l : List (Key × D))
  | dit (l : List (List Key × D))
abbrev Mp := Addr → Option MO
def put (M : Mp) (a : Addr) (o : MO) : Mp := fun b => if b = a then some o else M b
theorem put_same {M : Mp} {a : Addr} {o : MO} : put M a o a = some o := if_pos rfl
theorem put_ne {M : Mp} {a b : Addr} {o : MO} (h : b ≠ a) : put M a o b = M b := if_neg h
def Sub (M M' : Mp) : Prop := ∀ a o, M a = some o → M' a = some o
theorem Sub.refl {M : Mp} : Sub M M := fun _ _ h => h
theorem Sub.trans {M M1 M2 : Mp} (a : Sub M M1) (b : Sub M1 M2) : Sub M M2 := fun _ _ h => b _ _ (a _ _ h)
theorem Sub.new {M : Mp} {p : Addr} {o : MO} (h : M p = none) : Sub M (put M p o) := fun a u e => by
  rw [put_ne (fun z => by subst z; rw [h] at e; cases e)]; exact e
theorem Sub.put {M M' : Mp} (s : Sub M M') (p : Addr) (o : MO) : Sub (put M p o) (put M' p o) := fun a u e => by
  by_cases h : a = p
  · subst h; rw [put_same] at e ⊢; exact e
  · rw [put_ne h] at e ⊢; exact s _ _ e
def MoOk (K : PySem.W.Frag) (H : Hp) (a : Addr) : MO → Prop
  | .lst ds => ∃ xs, H a = some (.lst xs) ∧ Reps K H xs ds
  | .dic kvs => ∃ ws, H a = some (.dK ws) ∧ Paired (fun (p : Key × V) (q : Key × D) => p.1 = q.1 ∧ Rep K H p.2 q.2) ws kvs
  | .dit kvs => ∃ ws, H a = some (.dT ws) ∧ Paired (fun (p : List Key × V) (q : List Key × D) => p.1 = q.1 ∧ Rep K H p.2 q.2) ws kvs
def HR (K : PySem.W.Frag) (M : Mp) (H : Hp) : Prop := ∀ a o, M a = some o → MoOk K H a o
theorem MoOk.mono (g : Grow K H H') {a : Addr} (e : H' a = H a) : ∀ {o : MO}, MoOk K H a o → MoOk K H' a o
  | .lst ds, ⟨xs, h, r⟩ => ⟨xs, e.trans h, r.mono g⟩
  | .dic kvs, ⟨xs, h, r⟩ => ⟨xs, e.trans h, Paired.mapP r fun p q z => ⟨z.1, Rep.mono g _ z.2⟩⟩
  | .dit kvs, ⟨xs, h, r⟩ => ⟨xs, e.trans h, Paired.mapP r fun p q z => ⟨z.1, Rep.mono g _ z.2⟩⟩
theorem MoOk.some {a : Addr} : ∀ {o : MO}, MoOk K H a o → ∃ u, H a = some u
  | .lst _, ⟨_, h, _⟩ => ⟨_, h⟩
  | .dic _, ⟨_, h, _⟩ => ⟨_, h⟩
  | .dit _, ⟨_, h, _⟩ => ⟨_, h⟩
theorem HR.none {M : Mp} (h : HR K M H) {p : Addr} (e : H p = none) : M p = none := by
  cases q : M p with
  | none => rfl
  | some o =>
    obtain ⟨u, e'⟩ := (h p o q).some
    rw [e] at e'; cases e'
theorem HR.sub {M M0 : Mp} (h : HR K M H) (s : Sub M0 M) : HR K M0 H := fun a o e => h a o (s a o e)
theorem HR.list {M : Mp} (h : HR K M H) {p : Addr} {ds : List D} (e : M p = some (.lst ds)) : ∃ xs, H p = some (.lst xs) ∧ Reps K H xs ds := h p _ e
theorem HR.dic {M : Mp} (h : HR K M H) {p : Addr} {ds : List (Key × D)} (e : M p = some (.dic ds)) : ∃ xs, H p = some (.dK xs) ∧ Paired (fun (p : Key × V) (q : Key × D) => p.1 = q.1 ∧ Rep K H p.2 q.2) xs ds := h p _ e
theorem HR.dit {M : Mp} (h : HR K M H) {p : Addr} {ds : List (List Key × D)} (e : M p = some (.dit ds)) : ∃ xs, H p = some (.dT xs) ∧ Paired (fun (p : List Key × V) (q : List Key × D) => p.1 = q.1 ∧ Rep K H p.2 q.2) xs ds := h p _ e
/-- a store -/
theorem HR.put {M : Mp} {p : Addr} {u : HO} {o : MO} (h : HR K M H) (g : Grow K H (upd H p u)) (n : MoOk K (upd H p u) p o) : HR K (put M p o) (upd H p u) := fun a o' e => by
  by_cases q : a = p
  · subst q; rw [put_same] at e; cases e; exact n
  · rw [put_ne q] at e
    exact (h a o' e).mono g (upd_ne q)
/-- a store to what M does not tell -/
theorem HR.upd {M : Mp} {p : Addr} {u : HO} (h : HR K M H) (g : Grow K H (L2.upd H p u)) (n : M p = .none) : HR K M (L2.upd H p u) := fun a o' e => by
  have q : a ≠ p := fun z => by subst z; rw [n] at e; cases e
  exact (h a o' e).mono g (upd_ne q)
theorem HR.putL {M : Mp} {p : Addr} {xs : List V} {ds : List D} (h : HR K M H) (g : Grow K H (L2.upd H p (.lst xs))) (r : Reps K H xs ds) : HR K (G3.put M p (.lst ds)) (L2.upd H p (.lst xs)) :=
  h.put g ⟨xs, upd_same, r.mono g⟩
end

/-! ### slots -/
abbrev S3 := List (Option D)
inductive Slots (K : PySem.W.Frag) (H : Hp) : L2.St → S3 → Prop
  | nil : Slots K H [] []
  | non {o : Option V} {σ : L2.St} {τ : S3} : Slots K H σ τ → Slots K H (o :: σ) (Option.none :: τ)
  | som {v : V} {d : D} {σ : L2.St} {τ : S3} : Rep K H v d → Slots K H σ τ → Slots K H (Option.some v :: σ) (Option.some d :: τ)
section
variable {K : PySem.W.Frag} {H H1 H2 H' : Hp}
theorem Slots.mono (g : Grow K H H') : ∀ {σ : L2.St} {τ : S3}, Slots K H σ τ → Slots K H' σ τ
  | _, _, .nil => .nil
  | _, _, .non r => .non (Slots.mono g r)
  | _, _, .som q r => .som (Rep.mono g _ q) (Slots.mono g r)
theorem Slots.get : ∀ {σ : L2.St} {τ : S3} {i : Nat} {d : D}, Slots K H σ τ → τ[i]? = some (some d) → ∃ v, σ[i]? = some (some v) ∧ Rep K H v d
  | _, _, _, _, .nil, e => by simp at e
  | _, _, 0, _, .non r, e => by simp at e
  | _, _, 0, _, .som q r, e => by simp at e; subst e; exact ⟨_, rfl, q⟩
  | _, _, i + 1, _, .non r, e => by
    obtain ⟨v, e', q⟩ := Slots.get (i := i) r (by simpa using e)
    exact ⟨v, by simpa using e', q⟩
  | _, _, i + 1, _, .som _ r, e => by
    obtain ⟨v, e', q⟩ := Slots.get (i := i) r (by simpa using e)
    exact ⟨v, by simpa using e', q⟩
theorem Slots.set {v : V} {d : D} (q : Rep K H v d) : ∀ {σ : L2.St} {τ : S3} (i : Nat), Slots K H σ τ → Slots K H (σ.set i (some v)) (τ.set i (some d))
  | _, _, _, .nil => .nil
  | _, _, 0, .non r => .som q r
  | _, _, 0, .som _ r => .som q r
  | _, _, i + 1, .non r => .non (Slots.set q i r)
  | _, _, i + 1, .som q' r => .som q' (Slots.set q i r)
theorem Slots.clear : ∀ {σ : L2.St} {τ : S3} (i : Nat), Slots K H σ τ → Slots K H (σ.set i none) (τ.set i none)
  | _, _, _, .nil => .nil
  | _, _, 0, .non r => .non r
  | _, _, 0, .som _ r => .non r
  | _, _, i + 1, .non r => .non (Slots.clear i r)
  | _, _, i + 1, .som q' r => .som q' (Slots.clear i r)
theorem Slots.nones : ∀ (n : Nat), Slots K H (List.replicate n none) (List.replicate n none)
  | 0 => .nil
  | n + 1 => .non (Slots.nones n)
theorem Slots.start : ∀ {vs : List V} {ds : List D} (n : Nat), Reps K H vs ds → Slots K H (vs.map some ++ List.replicate n none) (ds.map some ++ List.replicate n none)
  | _, [], n, h => by cases h; exact Slots.nones n
  | _, d :: ds, n, h => by
    cases h with
    | cons r rs => exact .som r (Slots.start n rs)
end
end G3
set_option Elab.async false
set_option linter.all false
set_option maxRecDepth 100000
set_option maxHeartbeats 4000000
/-! a tuple times an integer from 1 on -/
namespace G3
open PySem PySem.Spec PyProof.Rows L2
theorem tuple_once (l : Addr) (its : Array Value) (n : Nat) (dd : Option Addr) (sl : Array (Option Value)) (u : Tok) :
    Meets (Builtin.«tuple.__mul__» ⟨[.ref l, .int 1 u], []⟩) (fun _ R s => s.heap.get? l = some { cls := .type "tuple", dict := dd, data := .seq its n, slots := sl } ∧ R (.ok (.ret (Value.ref l))) s) :=
  .of_wp fun prog w A R s h => by
    obtain ⟨hp, g, d, tk, os⟩ := s
    obtain ⟨hl, h⟩ := h
    have f1 := AutoSeq1.idx_int
    have c0 : (decide ((1 : Int) < -(2 ^ 63)) || decide ((1 : Int) ≥ 2 ^ 63)) = false := by decide
    have c1 : (its.isEmpty || (1 : Int) == 1) = true := by simp
    wp_walk using wpAny_loadPart' hl
    repeat (first
      | (refine wpAny_ite_false (decide_eq_false (by rw [c0]; exact Bool.false_ne_true)) ?_; wp_walk using wpAny_loadPart' hl)
      | (refine wpAny_ite_true (decide_eq_true c1) ?_; wp_walk using wpAny_loadPart' hl))
    exact ⟨_, rfl, h⟩
theorem op_repOne {X : Cx} : OpR X (binaryOp .Mult) (fun x y H Q => ∃ l xs, x = .ref l ∧ y = .int 1 ∧ SqT X.K H l xs ∧ Q (.ref l) H) := by
  intro pins s σ H x y v u Q I rx ry h
  obtain ⟨l, xs, rfl, rfl, hT, q⟩ := h
  cases rx
  obtain ⟨t, rfl⟩ := ry
  obtain ⟨its, r, ⟨⟨cls, dd, data, sl⟩, ho, hc, n, hd⟩, hs⟩ := I.tuple hT
  simp only at hc hd
  subst hc hd
  exact wpAny_binaryOp_repeat_ref (T := "tuple") (U := "int") (by decide) ⟨_, ho, rfl⟩ (fun s' => typeIs_int s' 1 t) noFill_tuple_mul F.fills_int_mul F.slot_int_rmul repeat_tuple F.slot_int_index.lookup
    (call_meets F.slot_int_rmul (typeIs_int s 1 t) F.entry_int_rmul (F.args_int_rmul_2 _ _) (int_rmul_tuple 1 t l its.toArray n dd sl)
      ⟨ho, rfl, ⟨_, ho, rfl⟩, call_meets F.slot_tuple_mul ⟨_, ho, rfl⟩ F.entry_tuple_mul (F.args_tuple_mul_2 _ _) (tuple_once l its.toArray n dd sl t) ⟨ho, ⟨.ref l, _, I, rfl, q⟩⟩⟩)
end G3
set_option Elab.async false
set_option linter.all false
set_option maxRecDepth 100000
set_option maxHeartbeats 4000000
/-! what operators and built-ins do to values by content -/
namespace G3
open PySem PySem.Spec PyProof.Rows L2

abbrev K3 := D → Mp → Prop
abbrev TE3 := S3 → Mp → K3 → Prop
abbrev TT3 := S3 → Mp → (Bool → Mp → Prop) → Prop
abbrev TA3 := S3 → Mp → (List D → Mp → Prop) → Prop
abbrev Sp3 := List D → Mp → K3 → Prop
abbrev R23 := D → D → Mp → K3 → Prop
/-- what is wanted of the value behind -/
def Lnk (K : PySem.W.Frag) (H : Hp) (Q3 : K3) (Q : VK) : Prop := ∀ v H' d M', Q3 d M' → Grow K H H' → HR K M' H' → Rep K H' v d → Q v H'
theorem Lnk.here {K : PySem.W.Frag} {H : Hp} {Q3 : K3} {Q : VK} (l : Lnk K H Q3 Q) {v : V} {d : D} {M : Mp} (h : HR K M H) (r : Rep K H v d) (q : Q3 d M) : Q v H := l v H d M q .refl h r
theorem Lnk.from {K : PySem.W.Frag} {H H1 : Hp} {Q3 : K3} {Q : VK} (l : Lnk K H Q3 Q) (g : Grow K H H1) : Lnk K H1 Q3 Q := fun v H' d M' q g' => l v H' d M' q (g.trans g')
def lift2 (K : PySem.W.Frag) (r : R23) : R2 := fun x y H Q => ∃ d e M Q3, HR K M H ∧ Rep K H x d ∧ Rep K H y e ∧ r d e M Q3 ∧ Lnk K H Q3 Q
def lift1 (K : PySem.W.Frag) (r : D → Mp → K3 → Prop) : V → Hp → VK → Prop := fun x H Q => ∃ d M Q3, HR K M H ∧ Rep K H x d ∧ r d M Q3 ∧ Lnk K H Q3 Q
def liftC (K : PySem.W.Frag) (r : List D → Mp → K3 → Prop) : List V → Hp → VK → Prop := fun xs H Q => ∃ ds M Q3, HR K M H ∧ Reps K H xs ds ∧ r ds M Q3 ∧ Lnk K H Q3 Q
def liftM (K : PySem.W.Frag) (r : D → List D → Mp → K3 → Prop) : V → List V → Hp → VK → Prop := fun x xs H Q => ∃ d ds M Q3, HR K M H ∧ Rep K H x d ∧ Reps K H xs ds ∧ r d ds M Q3 ∧ Lnk K H Q3 Q

/-! ### new objects -/
def newL (l : List D) : Mp → K3 → Prop := fun M Q => ∀ p, M p = none → Q (.ref p) (put M p (.lst l))
section
variable {K : PySem.W.Frag} {H : Hp} {M : Mp} {Q3 : K3} {Q : VK}
theorem newL_ok {xs : List V} {l : List D} (h : HR K M H) (r : Reps K H xs l) (q : newL l M Q3) (L : Lnk K H Q3 Q) : ∀ p, H p = none → Q (.ref p) (upd H p (.lst xs)) := fun p e =>
  L _ _ _ _ (q p (h.none e)) (.new e) (h.putL (.new e) r) (.ref p)
theorem newT_ok {xs : List V} {l : List D} (h : HR K M H) (r : Reps K H xs l) (q : Q3 (.tup l) M) (L : Lnk K H Q3 Q) : ∀ p, H p = none → Q (.ref p) (upd H p (.tup xs)) := fun p e =>
  L _ _ _ _ q (.new e) (h.upd (.new e) (h.none e)) (.tup (SqT.of upd_same) (r.mono (.new e)))
end

/-! ### arithmetic -/
inductive Bop | add | sub | mul | fdiv | mod | pow | shl | shr | fdivn
def Bop.op : Bop → Operator
  | .add => .Add | .sub => .Sub | .mul => .Mult | .fdiv => .FloorDiv | .mod => .Mod | .pow => .Pow | .shl => .LShift | .shr => .RShift | .fdivn => .FloorDiv
/-- the bounds of a product -/
def MulOk (i j : Int) : Prop := (-(2 ^ 64) < i ∧ i < 2 ^ 64) ∨ (-(2 ^ 64) < j ∧ j < 2 ^ 64) ∨ i.natAbs.log2 + j.natAbs.log2 < 1000000
def DivOk (j : Int) : Prop := 0 < j ∧ (j < 1073741824 ∨ j.natAbs.log2 < 9000)
def getL (M : Mp) (p : Addr) : Option (List D) := match M p with
  | some (.lst l) => some l
  | _ => none
def bin3 : Bop → R23
  | .add, .int i, .int j, M, Q => Q (.int (i + j)) M
  | .add, .str x, .str y, M, Q => x.length + y.length ≤ sizeLine ∧ Q (.str (x ++ y)) M
  | .add, .tup a, .tup b, M, Q => a.length + b.length ≤ sizeLine ∧ Q (.tup (a ++ b)) M
  | .add, .ref p, .ref q, M, Q => ∃ a b, getL M p = some a ∧ getL M q = some b ∧ a.length + b.length ≤ sizeLine ∧ newL (a ++ b) M Q
  | .sub, .int i, .int j, M, Q => Q (.int (i - j)) M
  | .mul, .int i, .int j, M, Q => MulOk i j ∧ Q (.int (i * j)) M
  | .mul, .ref p, .int k, M, Q => ∃ a, getL M p = some a ∧ (-(2 ^ 63) ≤ k ∧ k < 2 ^ 63 ∧ a.length * k.toNat ≤ sizeLine) ∧ newL (List.replicate k.toNat a).flatten M Q
  | .mul, .tup a, .int k, M, Q => (a ≠ [] ∧ 1 ≤ k ∧ k ≤ 1000 ∧ a.length ≤ 1000) ∧ Q (.tup (List.replicate k.toNat a).flatten) M
  | .fdiv, .int i, .int j, M, Q => DivOk j ∧ Q (.int (i / j)) M
  | .mod, .int i, .int j, M, Q => 0 < j ∧ Q (.int (i % j)) M
  | .pow, .int i, .int j, M, Q => CPow i j ∧ Q (.int (i ^ j.toNat)) M
  | .shl, .int i, .int j, M, Q => CPow i j ∧ Q (.int (i * 2 ^ j.toNat)) M
  | .shr, .int i, .int j, M, Q => 0 ≤ j ∧ Q (.int (i / 2 ^ j.toNat)) M
  | .fdivn, .int i, .int j, M, Q => (j ≠ 0 ∧ j.natAbs.log2 < 9000) ∧ Q (.int (i.fdiv j)) M
  | _, _, _, _, _ => False
theorem getL_some {M : Mp} {p : Addr} {l : List D} (h : getL M p = some l) : M p = some (.lst l) := by
  unfold getL at h
  split at h
  · cases h; assumption
  · cases h
theorem getL_of {M : Mp} {p : Addr} {l : List D} (h : M p = some (.lst l)) : getL M p = some l := by
  unfold getL; rw [h]
theorem Reps.flat {K : PySem.W.Frag} {H : Hp} {xs : List V} {l : List D} (r : Reps K H xs l) : ∀ n, Reps K H (List.replicate n xs).flatten (List.replicate n l).flatten
  | 0 => .nil
  | n + 1 => by
    rw [List.replicate_succ, List.replicate_succ, List.flatten_cons, List.flatten_cons]
    exact r.append (Reps.flat r n)
theorem op_fdivWN {X : Cx} : OpR X (binaryOp .FloorDiv) (rI (fun _ j => j ≠ 0 ∧ j.natAbs.log2 < 9000) fun i j => .int (i.fdiv j)) := opI fun _ _ _ _ _ _ _ hc q => floordiv_int hc.1 q (.inl (PyProof.noPylong_of_log2 hc.2))
theorem bin_ok {X : Cx} : ∀ b : Bop, OpR X (binaryOp b.op) (lift2 X.K (bin3 b)) := by
  intro b pins s σ H x y v u Q I rx ry h
  obtain ⟨d, e, M, Q3, hr, r1, r2, h, L⟩ := h
  cases b with
  | add =>
    cases d <;> cases e <;> try exact h.elim
    · cases r1; cases r2; exact op_add pins s σ H _ _ v u Q I rx ry ⟨_, _, rfl, rfl, L.here hr (.int _) h⟩
    · cases r1; cases r2; exact op_add_str pins s σ H _ _ v u Q I rx ry ⟨_, _, rfl, rfl, h.1, L.here hr (.str _) h.2⟩
    · cases r1 with
      | tup s1 q1 =>
        cases r2 with
        | tup s2 q2 =>
          rename_i l1 l2 a1 x1 a2 x2
          refine op_catA pins s σ H _ _ v u Q I rx ry ⟨_, _, _, _, rfl, rfl, s1, s2, by rw [q1.length, q2.length]; exact h.1, fun e0 => ?_, fun _ e1 => ?_, fun _ _ => newT_ok hr (q1.append q2) h.2 L⟩
          · subst e0
            cases q1
            exact L.here hr (.tup s2 q2) h.2
          · subst e1
            cases q2
            have h2 := h.2
            rw [List.append_nil] at h2
            exact L.here hr (.tup s1 q1) h2
    · cases r1; cases r2
      obtain ⟨a, b, ea, eb, hz, q⟩ := h
      obtain ⟨xs, hx, qx⟩ := hr.list (getL_some ea)
      obtain ⟨ys, hy, qy⟩ := hr.list (getL_some eb)
      exact op_cat pins s σ H _ _ v u Q I rx ry ⟨_, _, _, _, rfl, rfl, hx, hy, by rw [qx.length, qy.length]; exact hz, newL_ok hr (qx.append qy) q L⟩
  | sub =>
    cases d <;> cases e <;> try exact h.elim
    cases r1; cases r2; exact op_sub pins s σ H _ _ v u Q I rx ry ⟨_, _, rfl, rfl, L.here hr (.int _) h⟩
  | mul =>
    cases d <;> cases e <;> try exact h.elim
    · cases r1; cases r2
      obtain ⟨hm, q⟩ := h
      rcases hm with hm | hm | hm
      · exact op_mul pins s σ H _ _ v u Q I rx ry ⟨_, _, rfl, rfl, .inl hm, L.here hr (.int _) q⟩
      · exact op_mul pins s σ H _ _ v u Q I rx ry ⟨_, _, rfl, rfl, .inr hm, L.here hr (.int _) q⟩
      · exact op_mulW pins s σ H _ _ v u Q I rx ry ⟨_, _, rfl, rfl, hm, L.here hr (.int _) q⟩
    · cases r1 with
      | tup s1 q1 =>
        cases r2
        rename_i l1 k1 a1 x1
        obtain ⟨⟨hne, h1, h2, h3⟩, h⟩ := h
        by_cases c : k1 = 1
        · subst c
          have e : (List.replicate (Int.toNat 1) l1).flatten = l1 := by simp
          rw [e] at h
          exact op_repOne pins s σ H _ _ v u Q I rx ry ⟨_, _, rfl, rfl, s1, L.here hr (.tup s1 q1) h⟩
        · exact op_repT pins s σ H _ _ v u Q I rx ry ⟨_, _, _, rfl, rfl, s1, fun e => hne (by subst e; cases q1; rfl), by omega, h2, by rw [q1.length]; exact h3, newT_ok hr (q1.flat _) h L⟩
    · cases r1; cases r2
      obtain ⟨a, ea, ⟨h1, h2, h3⟩, q⟩ := h
      obtain ⟨xs, hx, qx⟩ := hr.list (getL_some ea)
      exact op_rep pins s σ H _ _ v u Q I rx ry ⟨_, _, _, rfl, rfl, hx, h1, h2, by rw [qx.length]; exact h3, newL_ok hr (qx.flat _) q L⟩
  | fdiv =>
    cases d <;> cases e <;> try exact h.elim
    cases r1; cases r2
    obtain ⟨⟨h0, h1⟩, q⟩ := h
    rcases h1 with h1 | h1
    · exact op_fdiv pins s σ H _ _ v u Q I rx ry ⟨_, _, rfl, rfl, ⟨h0, h1⟩, L.here hr (.int _) q⟩
    · exact op_fdivW pins s σ H _ _ v u Q I rx ry ⟨_, _, rfl, rfl, ⟨h0, h1⟩, L.here hr (.int _) q⟩
  | mod =>
    cases d <;> cases e <;> try exact h.elim
    cases r1; cases r2; exact op_mod pins s σ H _ _ v u Q I rx ry ⟨_, _, rfl, rfl, h.1, L.here hr (.int _) h.2⟩
  | pow =>
    cases d <;> cases e <;> try exact h.elim
    cases r1; cases r2; exact op_pow pins s σ H _ _ v u Q I rx ry ⟨_, _, rfl, rfl, h.1, L.here hr (.int _) h.2⟩
  | shl =>
    cases d <;> cases e <;> try exact h.elim
    cases r1; cases r2; exact op_shl pins s σ H _ _ v u Q I rx ry ⟨_, _, rfl, rfl, h.1, L.here hr (.int _) h.2⟩
  | fdivn =>
    cases d <;> cases e <;> try exact h.elim
    cases r1; cases r2; exact op_fdivWN pins s σ H _ _ v u Q I rx ry ⟨_, _, rfl, rfl, h.1, L.here hr (.int _) h.2⟩
  | shr =>
    cases d <;> cases e <;> try exact h.elim
    cases r1; cases r2; exact op_shr pins s σ H _ _ v u Q I rx ry ⟨_, _, rfl, rfl, h.1, L.here hr (.int _) h.2⟩

/-! ### comparisons -/
inductive Cop | eq | ne | lt | le | gt | ge | isN | notN | inn | nin
def Cop.op : Cop → CmpOp
  | .eq => .Eq | .ne => .NotEq | .lt => .Lt | .le => .LtE | .gt => .Gt | .ge => .GtE | .isN => .Is | .notN => .IsNot | .inn => .In | .nin => .NotIn
mutual
def pyD : D → Option PyData
  | .non => some .none
  | .bl b => some (.bool b)
  | .int i => some (.int i)
  | .str x => some (.str x)
  | .tup l => (pyDs l).map .tuple
  | .cl l => (pyDs l).map .list
  | _ => none
def pyDs : List D → Option (List PyData)
  | [] => some []
  | d :: ds => match pyD d, pyDs ds with
    | some x, some xs => some (x :: xs)
    | _, _ => none
end
def pyT (M : Mp) : D → Option PyData
  | .ref p => match getL M p with
    | some l => (pyDs l).map .list
    | none => none
  | d => pyD d
section
variable {K : PySem.W.Frag} {H : Hp}
mutual
theorem pyD_ok : ∀ (d : D) {v : V} {x : PyData}, Rep K H v d → pyD d = some x → Dp K H v x
  | .non, _, _, r, e => by cases r; cases e; exact .non
  | .bl b, _, _, r, e => by cases r; cases e; exact .bl b
  | .int b, _, _, r, e => by cases r; cases e; exact .int b
  | .str b, _, _, r, e => by cases r; cases e; exact .str b
  | .ref b, _, _, r, e => by cases e
  | .kt b, _, _, r, e => by cases e
  | .ty b, _, _, r, e => by cases e
  | .tup l, _, _, r, e => by
    cases r with
    | tup s q =>
      unfold pyD at e
      cases h : pyDs l with
      | none => rw [h] at e; cases e
      | some xs =>
        rw [h] at e; cases e
        exact .tup s (pyDs_ok l q h)
  | .cl l, _, _, r, e => by
    cases r with
    | cl s q =>
      unfold pyD at e
      cases h : pyDs l with
      | none => rw [h] at e; cases e
      | some xs =>
        rw [h] at e; cases e
        exact .lst s.l (pyDs_ok l q h)
theorem pyDs_ok : ∀ (ds : List D) {vs : List V} {xs : List PyData}, Reps K H vs ds → pyDs ds = some xs → DpAll K H vs xs
  | [], _, _, r, e => by cases r; cases e; exact .nil
  | d :: ds, _, _, r, e => by
    cases r with
    | cons r rs =>
      unfold pyDs at e
      cases h : pyD d with
      | none => rw [h] at e; cases e
      | some x =>
        cases h' : pyDs ds with
        | none => rw [h, h'] at e; cases e
        | some xs =>
          rw [h, h'] at e; cases e
          exact .cons (pyD_ok d r h) (pyDs_ok ds rs h')
end
theorem pyT_ok {M : Mp} {d : D} {v : V} {x : PyData} (hr : HR K M H) (r : Rep K H v d) (e : pyT M d = some x) : Dp K H v x := by
  cases d with
  | ref p =>
    cases h : getL M p with
    | none => simp only [pyT, h] at e; cases e
    | some l =>
      simp only [pyT, h] at e
      cases h' : pyDs l with
      | none => rw [h'] at e; cases e
      | some xs =>
        rw [h'] at e; cases e
        obtain ⟨ys, hy, q⟩ := hr.list (getL_some h)
        cases r
        exact .lst (SqL.of hy) (pyDs_ok l q h')
  | _ => exact pyD_ok _ r e
end
def eq3 (f : Bool → Bool) : R23 := fun d e M Q => match pyT M d, pyT M e with
  | some x, some y => SeqAt.shaped x = true ∧ SeqAt.shaped y = true ∧ Q (.bl (f (PyData.eqv x y))) M
  | _, _ => False
def isNon : D → Bool
  | .non => true
  | _ => false
def flatD : D → Bool
  | .non => true
  | .bl _ => true
  | .int _ => true
  | .str _ => true
  | _ => false
/-- == of flat values -/
def eqF : D → D → Bool
  | .non, .non => true
  | .bl a, .bl b => a == b
  | .bl a, .int b => (if a then 1 else 0) == b
  | .int a, .bl b => a == (if b then 1 else 0)
  | .int a, .int b => a == b
  | .str a, .str b => a == b
  | _, _ => false
def inF (x : D) (l : List D) : Bool := l.any fun y => eqF y x
def keyD : D → Option Key
  | .int i => some (.inl i)
  | .str x => some (.inr x)
  | _ => none
def getK (l : List (Key × D)) (k : Key) : Option D := (l.find? fun kv => decide (kv.1 = k)).map (·.2)
def getD (M : Mp) (p : Addr) : Option (List (Key × D)) := match M p with
  | some (.dic l) => some l
  | _ => none
theorem getD_some {M : Mp} {p : Addr} {l : List (Key × D)} (h : getD M p = some l) : M p = some (.dic l) := by
  unfold getD at h
  split at h
  · cases h; assumption
  · cases h
theorem getD_of {M : Mp} {p : Addr} {l : List (Key × D)} (h : M p = some (.dic l)) : getD M p = some l := by
  unfold getD; rw [h]
def keysD : List D → Option (List Key)
  | [] => some []
  | d :: ds => match keyD d, keysD ds with
    | some k, some ks => some (k :: ks)
    | _, _ => none
/-- a tuple that is a dict's key -/
def keyT : D → Option (List Key)
  | .kt ds => keysD ds
  | _ => none
def getT (l : List (List Key × D)) (k : List Key) : Option D := (l.find? fun kv => decide (kv.1 = k)).map (·.2)
def in3 (f : Bool → Bool) : R23 := fun d e M Q => match e with
  | .tup l => flatD d = true ∧ l.all flatD = true ∧ Q (.bl (f (inF d l))) M
  | .cl l => flatD d = true ∧ l.all flatD = true ∧ Q (.bl (f (inF d l))) M
  | .ref p => match M p with
    | some (.lst l) => flatD d = true ∧ l.all flatD = true ∧ Q (.bl (f (inF d l))) M
    | some (.dic l) => match keyD d with
      | some k => Q (.bl (f (getK l k).isSome)) M
      | none => False
    | some (.dit l) => match keyT d with
      | some k => Q (.bl (f (getT l k).isSome)) M
      | none => False
    | none => False
  | _ => False
def cmp3 : Cop → R23
  | .eq, .int i, .int j, M, Q => Q (.bl (decide (i = j))) M
  | .eq, d, e, M, Q => eq3 id d e M Q
  | .ne, .int i, .int j, M, Q => Q (.bl (!decide (i = j))) M
  | .ne, d, e, M, Q => eq3 not d e M Q
  | .lt, .int i, .int j, M, Q => Q (.bl (decide (i < j))) M
  | .le, .int i, .int j, M, Q => Q (.bl (decide (i ≤ j))) M
  | .gt, .int i, .int j, M, Q => Q (.bl (decide (j < i))) M
  | .ge, .int i, .int j, M, Q => Q (.bl (decide (j ≤ i))) M
  | .isN, d, .non, M, Q => Q (.bl (isNon d)) M
  | .notN, d, .non, M, Q => Q (.bl (!isNon d)) M
  | .inn, d, e, M, Q => in3 id d e M Q
  | .nin, d, e, M, Q => in3 not d e M Q
  | _, _, _, _, _ => False
section
variable {K : PySem.W.Frag} {H : Hp}
theorem isNon_ok {v : V} {d : D} (r : Rep K H v d) : decide (v = .non) = isNon d := by
  cases r <;> first | rfl | simp [isNon]
theorem flat_ok {v : V} {d : D} (r : Rep K H v d) (f : flatD d = true) : flatV v = true := by
  cases r <;> first | rfl | cases f
theorem flats_ok : ∀ {l : List D} {vs : List V}, Reps K H vs l → l.all flatD = true → vs.all flatV = true
  | [], _, r, _ => by cases r; rfl
  | d :: l, _, r, f => by
    cases r with
    | cons r rs =>
      rw [List.all_cons, Bool.and_eq_true] at f
      rw [List.all_cons, flat_ok r f.1, flats_ok rs f.2]; rfl
theorem eqF_ok {v w : V} {d e : D} (r : Rep K H v d) (q : Rep K H w e) (f : flatD d = true) (g : flatD e = true) : eqV v w = eqF d e := by
  cases r <;> cases q <;> first | rfl | (exact absurd f (by simp [flatD])) | (exact absurd g (by simp [flatD]))
theorem inF_ok {v : V} {d : D} (r : Rep K H v d) (f : flatD d = true) : ∀ {l : List D} {vs : List V}, Reps K H vs l → l.all flatD = true → inV v vs = inF d l
  | [], _, q, _ => by cases q; rfl
  | e :: l, _, q, g => by
    cases q with
    | cons q qs =>
      rw [List.all_cons, Bool.and_eq_true] at g
      have h := inF_ok r f qs g.2
      unfold inV inF at h ⊢
      rw [List.any_cons, List.any_cons, eqF_ok q r g.1 f, h]
theorem keyD_ok {v : V} {d : D} {k : Key} (r : Rep K H v d) (e : keyD d = some k) : v = kV k := by
  cases r <;> cases e <;> rfl
abbrev PK3 (K : PySem.W.Frag) (H : Hp) : List (Key × V) → List (Key × D) → Prop := Paired fun (p : Key × V) (q : Key × D) => p.1 = q.1 ∧ Rep K H p.2 q.2
theorem getK_ok {k : Key} : ∀ {ws : List (Key × V)} {l : List (Key × D)}, PK3 K H ws l → (valV ws k = none ∧ getK l k = none) ∨ ∃ v d, valV ws k = some v ∧ getK l k = some d ∧ Rep K H v d
  | _, _, .nil => .inl ⟨rfl, rfl⟩
  | p :: ws, q :: l, .cons r rs => by
    by_cases e : p.1 = k
    · have e' : q.1 = k := r.1.symm.trans e
      exact .inr ⟨p.2, q.2, valV_pos e, by simp [getK, List.find?_cons, e'], r.2⟩
    · have e' : ¬ q.1 = k := fun z => e (r.1.trans z)
      rw [valV_neg e]
      have : getK (q :: l) k = getK l k := by simp [getK, List.find?_cons, e']
      rw [this]
      exact getK_ok rs
end
section
variable {K : PySem.W.Frag} {H : Hp}
abbrev PT3 (K : PySem.W.Frag) (H : Hp) : List (List Key × V) → List (List Key × D) → Prop := Paired fun (p : List Key × V) (q : List Key × D) => p.1 = q.1 ∧ Rep K H p.2 q.2
theorem keysD_ok : ∀ {ds : List D} {xs : List V} {k : List Key}, Reps K H xs ds → keysD ds = some k → xs = k.map kV
  | [], _, _, r, e => by cases r; cases e; rfl
  | d :: ds, _, k, r, e => by
    cases r with
    | cons r rs =>
      unfold keysD at e
      cases h : keyD d with
      | none => rw [h] at e; cases e
      | some k1 =>
        cases h' : keysD ds with
        | none => rw [h, h'] at e; cases e
        | some ks =>
          rw [h, h'] at e; cases e
          rw [keyD_ok r h, keysD_ok rs h']; rfl
theorem keyT_ok {v : V} {d : D} {k : List Key} (r : Rep K H v d) (e : keyT d = some k) : ∃ b, v = .ref b ∧ H b = some (.tup (k.map kV)) := by
  cases r with
  | kt s q => exact ⟨_, rfl, by rw [← keysD_ok q e]; exact s⟩
  | _ => cases e
theorem getT_ok {k : List Key} : ∀ {ws : List (List Key × V)} {l : List (List Key × D)}, PT3 K H ws l → (valV ws k = none ∧ getT l k = none) ∨ ∃ v d, valV ws k = some v ∧ getT l k = some d ∧ Rep K H v d
  | _, _, .nil => .inl ⟨rfl, rfl⟩
  | p :: ws, q :: l, .cons r rs => by
    by_cases e : p.1 = k
    · have e' : q.1 = k := r.1.symm.trans e
      exact .inr ⟨p.2, q.2, valV_pos e, by simp [getT, List.find?_cons, e'], r.2⟩
    · have e' : ¬ q.1 = k := fun z => e (r.1.trans z)
      rw [valV_neg e]
      have : getT (q :: l) k = getT l k := by simp [getT, List.find?_cons, e']
      rw [this]
      exact getT_ok rs
end
theorem in_dict {X : Cx} (hu : X.A.units + 1 < cLine) : OpR X (compareOp .In) (fun y x H Q => ∃ a ov, x = .ref a ∧ DGet H a y ov ∧ Q (.bl ov.isSome) H) := by
  intro pins s σ H y x iv u Q I ry rx h
  obtain ⟨a, ov, rfl, g, q⟩ := h
  obtain rfl : u = Value.ref a := rx
  exact d_in hu I g ry fun s3 I3 => ⟨.bl ov.isSome, H, I3, rfl, q⟩
theorem nin_dict {X : Cx} (hu : X.A.units + 1 < cLine) : OpR X (compareOp .NotIn) (fun y x H Q => ∃ a ov, x = .ref a ∧ DGet H a y ov ∧ Q (.bl (!ov.isSome)) H) := by
  intro pins s σ H y x iv u Q I ry rx h
  obtain ⟨a, ov, rfl, g, q⟩ := h
  obtain rfl : u = Value.ref a := rx
  exact d_notIn hu I g ry fun s3 I3 => ⟨.bl (!ov.isSome), H, I3, rfl, q⟩
end G3
set_option Elab.async false
set_option linter.all false
set_option maxRecDepth 100000
set_option maxHeartbeats 4000000
namespace G3
open PySem PySem.Spec PyProof.Rows L2
section
variable {X : Cx}
theorem cmp_ok (hu : X.A.units + 64 < cLine) : ∀ c : Cop, OpR X (compareOp c.op) (lift2 X.K (cmp3 c)) := by
  intro c pins s σ H x y v u Q I rx ry h
  obtain ⟨d, e, M, Q3, hr, r1, r2, h, L⟩ := h
  have eqc : ∀ f d e, Rep X.K H x d → Rep X.K H y e → eq3 f d e M Q3 → ∃ a b, Dp X.K H x a ∧ Dp X.K H y b ∧ SeqAt.shaped a = true ∧ SeqAt.shaped b = true ∧ Q (.bl (f (PyData.eqv a b))) H := fun f d e r1 r2 h => by
    unfold eq3 at h
    split at h
    · rename_i a b ha hb
      exact ⟨a, b, pyT_ok hr r1 ha, pyT_ok hr r2 hb, h.1, h.2.1, L.here hr (.bl _) h.2.2⟩
    · exact h.elim
  cases c with
  | eq =>
    have gen : eq3 id d e M Q3 → wpAny (model X.prog X.w) X.A (compareOp .Eq v u) (EP X pins σ Q) X.xe s := fun h => op_eqD hu pins s σ H x y v u Q I rx ry (eqc id d e r1 r2 h)
    cases d <;> cases e <;> first
      | exact gen h
      | (cases r1; cases r2; exact pc_eqI_ pins s σ H _ _ v u Q I rx ry h)
      | (cases r1; cases r2; exact op_eq pins s σ H _ _ v u Q I rx ry ⟨rfl, by rw [dec_int, Bool.beq_eq_decide_eq]; exact L.here hr (.bl _) h⟩)
  | ne =>
    have gen : eq3 not d e M Q3 → wpAny (model X.prog X.w) X.A (compareOp .NotEq v u) (EP X pins σ Q) X.xe s := fun h => op_neD hu pins s σ H x y v u Q I rx ry (eqc not d e r1 r2 h)
    cases d <;> cases e <;> first
      | exact gen h
      | (cases r1; cases r2; exact op_ne pins s σ H _ _ v u Q I rx ry ⟨rfl, by rw [dec_int, Bool.beq_eq_decide_eq]; exact L.here hr (.bl _) h⟩)
  | lt =>
    cases d <;> cases e <;> try exact h.elim
    cases r1; cases r2; exact op_lt pins s σ H _ _ v u Q I rx ry ⟨_, _, rfl, rfl, L.here hr (.bl _) h⟩
  | le =>
    cases d <;> cases e <;> try exact h.elim
    cases r1; cases r2; exact op_le pins s σ H _ _ v u Q I rx ry ⟨_, _, rfl, rfl, L.here hr (.bl _) h⟩
  | gt =>
    cases d <;> cases e <;> try exact h.elim
    cases r1; cases r2; exact op_gt pins s σ H _ _ v u Q I rx ry ⟨_, _, rfl, rfl, L.here hr (.bl _) h⟩
  | ge =>
    cases d <;> cases e <;> try exact h.elim
    cases r1; cases r2; exact op_ge pins s σ H _ _ v u Q I rx ry ⟨_, _, rfl, rfl, L.here hr (.bl _) h⟩
  | isN =>
    have h' : e = .non ∧ Q3 (.bl (isNon d)) M := by cases d <;> cases e <;> first | exact ⟨rfl, h⟩ | exact h.elim
    obtain ⟨rfl, h'⟩ := h'
    cases r2
    exact op_isN pins s σ H _ _ v u Q I rx ry ⟨rfl, by rw [isNon_ok r1]; exact L.here hr (.bl _) h'⟩
  | notN =>
    have h' : e = .non ∧ Q3 (.bl (!isNon d)) M := by cases d <;> cases e <;> first | exact ⟨rfl, h⟩ | exact h.elim
    obtain ⟨rfl, h'⟩ := h'
    cases r2
    exact op_notN pins s σ H _ _ v u Q I rx ry ⟨rfl, by rw [isNon_ok r1]; exact L.here hr (.bl _) h'⟩
  | inn =>
    have h : in3 id d e M Q3 := h
    unfold in3 at h
    split at h
    · cases r2 with
      | tup s1 q1 => exact op_in_seq pins s σ H _ _ v u Q I rx ry ⟨_, _, rfl, .inr s1, flat_ok r1 h.1, flats_ok q1 h.2.1, by rw [if_neg Bool.false_ne_true, inF_ok r1 h.1 q1 h.2.1]; exact L.here hr (.bl _) h.2.2⟩
    · cases r2 with
      | cl s1 q1 => exact op_in_seq pins s σ H _ _ v u Q I rx ry ⟨_, _, rfl, .inl s1.l, flat_ok r1 h.1, flats_ok q1 h.2.1, by rw [if_neg Bool.false_ne_true, inF_ok r1 h.1 q1 h.2.1]; exact L.here hr (.bl _) h.2.2⟩
    · rename_i p
      cases r2
      split at h
      · rename_i l e1
        obtain ⟨xs, hx, q1⟩ := hr.list e1
        exact op_in_seq pins s σ H _ _ v u Q I rx ry ⟨_, _, rfl, .inl (SqL.of hx), flat_ok r1 h.1, flats_ok q1 h.2.1, by rw [if_neg Bool.false_ne_true, inF_ok r1 h.1 q1 h.2.1]; exact L.here hr (.bl _) h.2.2⟩
      · rename_i l e1
        obtain ⟨xs, hx, q1⟩ := hr.dic e1
        split at h
        · rename_i k ek
          have e2 := keyD_ok r1 ek
          subst e2
          refine in_dict (by omega) pins s σ H _ _ v u Q I rx ry ⟨_, _, rfl, DGet.k hx, L.here hr (.bl _) ?_⟩
          rcases getK_ok (k := k) q1 with ⟨z1, z2⟩ | ⟨w, d', z1, z2, _⟩
          · rw [z2] at h; rw [z1]; exact h
          · rw [z2] at h; rw [z1]; exact h
        · exact h.elim
      · rename_i l e1
        obtain ⟨xs, hx, q1⟩ := hr.dit e1
        split at h
        · rename_i k ek
          obtain ⟨kb, rfl, hb⟩ := keyT_ok r1 ek
          refine in_dict (by omega) pins s σ H _ _ v u Q I rx ry ⟨_, _, rfl, DGet.t hx hb, L.here hr (.bl _) ?_⟩
          rcases getT_ok (k := k) q1 with ⟨z1, z2⟩ | ⟨w, d', z1, z2, _⟩
          · rw [z2] at h; rw [z1]; exact h
          · rw [z2] at h; rw [z1]; exact h
        · exact h.elim
      · exact h.elim
    · exact h.elim
  | nin =>
    have h : in3 not d e M Q3 := h
    unfold in3 at h
    split at h
    · cases r2 with
      | tup s1 q1 => exact op_notIn_seq pins s σ H _ _ v u Q I rx ry ⟨_, _, rfl, .inr s1, flat_ok r1 h.1, flats_ok q1 h.2.1, by rw [if_pos rfl, inF_ok r1 h.1 q1 h.2.1]; exact L.here hr (.bl _) h.2.2⟩
    · cases r2 with
      | cl s1 q1 => exact op_notIn_seq pins s σ H _ _ v u Q I rx ry ⟨_, _, rfl, .inl s1.l, flat_ok r1 h.1, flats_ok q1 h.2.1, by rw [if_pos rfl, inF_ok r1 h.1 q1 h.2.1]; exact L.here hr (.bl _) h.2.2⟩
    · rename_i p
      cases r2
      split at h
      · rename_i l e1
        obtain ⟨xs, hx, q1⟩ := hr.list e1
        exact op_notIn_seq pins s σ H _ _ v u Q I rx ry ⟨_, _, rfl, .inl (SqL.of hx), flat_ok r1 h.1, flats_ok q1 h.2.1, by rw [if_pos rfl, inF_ok r1 h.1 q1 h.2.1]; exact L.here hr (.bl _) h.2.2⟩
      · rename_i l e1
        obtain ⟨xs, hx, q1⟩ := hr.dic e1
        split at h
        · rename_i k ek
          have e2 := keyD_ok r1 ek
          subst e2
          refine nin_dict (by omega) pins s σ H _ _ v u Q I rx ry ⟨_, _, rfl, DGet.k hx, L.here hr (.bl _) ?_⟩
          rcases getK_ok (k := k) q1 with ⟨z1, z2⟩ | ⟨w, d', z1, z2, _⟩
          · rw [z2] at h; rw [z1]; exact h
          · rw [z2] at h; rw [z1]; exact h
        · exact h.elim
      · rename_i l e1
        obtain ⟨xs, hx, q1⟩ := hr.dit e1
        split at h
        · rename_i k ek
          obtain ⟨kb, rfl, hb⟩ := keyT_ok r1 ek
          refine nin_dict (by omega) pins s σ H _ _ v u Q I rx ry ⟨_, _, rfl, DGet.t hx hb, L.here hr (.bl _) ?_⟩
          rcases getT_ok (k := k) q1 with ⟨z1, z2⟩ | ⟨w, d', z1, z2, _⟩
          · rw [z2] at h; rw [z1]; exact h
          · rw [z2] at h; rw [z1]; exact h
        · exact h.elim
      · exact h.elim
    · exact h.elim

/-! ### one value -/
def neg3 : D → Mp → K3 → Prop
  | .int i, M, Q => Q (.int (-i)) M
  | _, _, _ => False
theorem neg_ok : UnR X (unaryOp .USub) (lift1 X.K neg3) := by
  intro pins s σ H x v Q I rx h
  obtain ⟨d, M, Q3, hr, r1, h, L⟩ := h
  cases d <;> try exact h.elim
  cases r1
  exact un_neg pins s σ H _ v Q I rx ⟨_, rfl, L.here hr (.int _) h⟩
/-- a value's truth -/
def tru3 (d : D) (M : Mp) (Q : Bool → Mp → Prop) : Prop := match d with
  | .non => Q false M
  | .bl b => Q b M
  | .int i => Q (i != 0) M
  | .str x => x.length ≤ sizeLine ∧ Q ((x.length : Int) != 0) M
  | .tup l => Q (!l.isEmpty) M
  | .cl l => Q (!l.isEmpty) M
  | .ref p => match M p with
    | some (.lst l) => Q (!l.isEmpty) M
    | some (.dic l) => Q (!l.isEmpty) M
    | some (.dit _) => False
    | none => False
  | .kt _ => False
  | .ty _ => False
theorem Reps.isEmpty {K : PySem.W.Frag} {H : Hp} {xs : List V} {l : List D} (r : Reps K H xs l) : l.isEmpty = xs.isEmpty := by
  cases r <;> rfl
theorem PK3.isEmpty {K : PySem.W.Frag} {H : Hp} {xs : List (Key × V)} {l : List (Key × D)} (r : PK3 K H xs l) : l.isEmpty = xs.isEmpty := by
  cases r <;> rfl
theorem tru3_ok {K : PySem.W.Frag} {H : Hp} {M : Mp} {v : V} {d : D} {Q3 : Bool → Mp → Prop} (hr : HR K M H) (r : Rep K H v d) (h : tru3 d M Q3) : ∃ k, TruV K v H k ∧ Q3 k M := by
  cases r with
  | non => exact ⟨_, rfl, h⟩
  | bl b => exact ⟨_, rfl, h⟩
  | int i => exact ⟨_, rfl, h⟩
  | str x => exact ⟨_, ⟨h.1, rfl⟩, h.2⟩
  | ty n => exact h.elim
  | kt s q => exact h.elim
  | ref a =>
    unfold tru3 at h
    dsimp only at h
    split at h
    · rename_i l e
      obtain ⟨xs, hx, q⟩ := hr.list e
      exact ⟨_, .inl ⟨xs, SqL.of hx, rfl⟩, by rw [← q.isEmpty]; exact h⟩
    · rename_i l e
      obtain ⟨xs, hx, q⟩ := hr.dic e
      exact ⟨_, .inr (.inr ⟨xs, hx, rfl⟩), by rw [← PK3.isEmpty q]; exact h⟩
    · exact h.elim
    · exact h.elim
  | tup s q => exact ⟨_, .inr (.inl ⟨_, s, rfl⟩), by rw [← q.isEmpty]; exact h⟩
  | cl s q => exact ⟨_, .inl ⟨_, s.l, rfl⟩, by rw [← q.isEmpty]; exact h⟩

/-! ### subscripts -/
theorem tail_bi {prog : Program} {w : World} {A : Around} {E : Value → Shared → Prop} {s : Shared} {value slice : Expr} {o i : Value} {T id : String} {Q : Value → Shared → Prop} (hT : s.TypeIs o T)
    (hl : typeLookup (.type T) "__getitem__" = pure (some (.builtin id))) (h : wpAny (model prog w) A (getItem o i) Q E s)
    (hs : subscripted slice false o i = operate [o, i] (getItem o i)) : wpAny (model prog w) A (subscriptTail value slice o i) Q E s := by
  unfold subscriptTail
  refine wpAny_bind ?_
  rw [getitemInPython_of_ne hT.not_modules]
  refine wpAny_bind (wpAny_specialOf hT hl ?_)
  have fin : wpAny (model prog w) A (subscripted slice false o i) (fun r s₃ => wpAny (model prog w) A (letTemporaryGo value o r >>= fun _ => pure r) Q E s₃) E s := by
    rw [hs]
    exact wpAny_operating (wpAny_mono h (fun r s₃ h₃ => wpAny_bind (wpAny_letTemporaryGo (wpAny_pure h₃))) fun _ _ x => x)
  first
    | exact wpAny_pure (wpAny_bind fin)
    | exact wpAny_bind (wpAny_pure (wpAny_bind fin))
    | exact wpAny_bind fin
theorem ix_dict (hu : X.A.units + 1 < cLine) : IxR X (fun x y H Q => ∃ a v, x = .ref a ∧ DGet H a y (some v) ∧ Q v H) := by
  intro value slice pins s σ H x y v u Q I rx ry h hs
  obtain ⟨a, w, rfl, g, q⟩ := h
  obtain rfl : v = Value.ref a := rx
  exact tail_bi (dict_typeIs I g) PySem.F.slot_dict_getitem.lookup (d_getItem hu I g ry fun w' s3 I3 rw' => ⟨w, H, I3, rw', q⟩) hs
def ix3 : R23 := fun d e M Q => match d with
  | .tup l => (match e with
    | .int i => match atI l i with
      | some x => Q x M
      | none => False
    | _ => False)
  | .cl l => (match e with
    | .int i => match atI l i with
      | some x => Q x M
      | none => False
    | _ => False)
  | .kt l => (match e with
    | .int i => match atI l i with
      | some x => Q x M
      | none => False
    | _ => False)
  | .str x => (match e with
    | .int i => x.length ≤ sizeLine ∧ (match atI x.cps.toList i with
      | some c => Q (.str ⟨#[c]⟩) M
      | none => False)
    | _ => False)
  | .ref p => (match M p with
    | some (.lst l) => (match e with
      | .int i => match atI l i with
        | some x => Q x M
        | none => False
      | _ => False)
    | some (.dic l) => (match keyD e with
      | some k => match getK l k with
        | some x => Q x M
        | none => False
      | none => False)
    | some (.dit l) => (match keyT e with
      | some k => match getT l k with
        | some x => Q x M
        | none => False
      | none => False)
    | none => False)
  | _ => False
theorem Reps.atI {K : PySem.W.Frag} {H : Hp} {xs : List V} {l : List D} {i : Int} {d : D} (r : Reps K H xs l) (e : L2.atI l i = some d) : ∃ v, L2.atI xs i = some v ∧ Rep K H v d := by
  unfold L2.atI at e ⊢
  rw [r.length]
  cases h : ixN l.length i with
  | none => rw [h] at e; cases e
  | some j =>
    rw [h] at e
    exact r.get e
theorem ix_ok (hu : X.A.units + 64 < cLine) : IxR X (lift2 X.K ix3) := by
  intro value slice pins s σ H x y v u Q I rx ry h hs
  obtain ⟨d, e, M, Q3, hr, r1, r2, h, L⟩ := h
  unfold ix3 at h
  cases r1 with
  | tup s1 q1 =>
    cases r2 <;> try exact h.elim
    dsimp only at h
    split at h
    · rename_i z hz
      obtain ⟨w, hw, rw'⟩ := q1.atI hz
      exact ix_tup value slice pins s σ H _ _ v u Q I rx ry ⟨_, _, _, _, rfl, rfl, s1, hw, L.here hr rw' h⟩ hs
    · exact h.elim
  | cl s1 q1 =>
    cases r2 <;> try exact h.elim
    dsimp only at h
    split at h
    · rename_i z hz
      obtain ⟨w, hw, rw'⟩ := q1.atI hz
      exact ix_list value slice pins s σ H _ _ v u Q I rx ry ⟨_, _, _, _, rfl, rfl, s1.l, hw, L.here hr rw' h⟩ hs
    · exact h.elim
  | kt s1 q1 =>
    cases r2 <;> try exact h.elim
    dsimp only at h
    split at h
    · rename_i z hz
      obtain ⟨w, hw, rw'⟩ := q1.atI hz
      exact ix_tup value slice pins s σ H _ _ v u Q I rx ry ⟨_, _, _, _, rfl, rfl, SqT.of s1, hw, L.here hr rw' h⟩ hs
    · exact h.elim
  | str z =>
    cases r2 <;> try exact h.elim
    dsimp only at h
    obtain ⟨hl, h⟩ := h
    split at h
    · rename_i c hc
      exact ix_str value slice pins s σ H _ _ v u Q I rx ry ⟨_, _, _, rfl, rfl, hl, hc, L.here hr (.str _) h⟩ hs
    · exact h.elim
  | ref p =>
    dsimp only at h
    split at h
    · rename_i l e1
      obtain ⟨xs, hx, q1⟩ := hr.list e1
      cases r2 <;> try exact h.elim
      dsimp only at h
      split at h
      · rename_i z hz
        obtain ⟨w, hw, rw'⟩ := q1.atI hz
        exact ix_list value slice pins s σ H _ _ v u Q I rx ry ⟨_, _, _, _, rfl, rfl, SqL.of hx, hw, L.here hr rw' h⟩ hs
      · exact h.elim
    · rename_i l e1
      obtain ⟨xs, hx, q1⟩ := hr.dic e1
      split at h
      · rename_i k ek
        split at h
        · rename_i z hz
          have e2 := keyD_ok r2 ek
          subst e2
          rcases getK_ok (k := k) q1 with ⟨z1, z2⟩ | ⟨w, d', z1, z2, rw'⟩
          · rw [hz] at z2; cases z2
          · rw [hz] at z2; cases z2
            exact ix_dict (by omega) value slice pins s σ H _ _ v u Q I rx ry ⟨_, _, rfl, by rw [← z1]; exact DGet.k hx, L.here hr rw' h⟩ hs
        · exact h.elim
      · exact h.elim
    · rename_i l e1
      obtain ⟨xs, hx, q1⟩ := hr.dit e1
      split at h
      · rename_i k ek
        split at h
        · rename_i z hz
          obtain ⟨kb, rfl, hb⟩ := keyT_ok r2 ek
          rcases getT_ok (k := k) q1 with ⟨z1, z2⟩ | ⟨w, d', z1, z2, rw'⟩
          · rw [hz] at z2; cases z2
          · rw [hz] at z2; cases z2
            exact ix_dict (by omega) value slice pins s σ H _ _ v u Q I rx ry ⟨_, _, rfl, by rw [← z1]; exact DGet.t hx hb, L.here hr rw' h⟩ hs
        · exact h.elim
      · exact h.elim
    · exact h.elim
  | _ => exact h.elim

/-! ### slices -/
def cutD (l : List D) (lo hi : Option Int) : List D := (l.drop (HT.sIx l.length 0 lo)).take (HT.sIx l.length l.length hi - HT.sIx l.length 0 lo)
theorem Reps.cut {K : PySem.W.Frag} {H : Hp} {xs : List V} {l : List D} (r : Reps K H xs l) (lo hi : Option Int) : Reps K H (cutV xs lo hi) (cutD l lo hi) := by
  unfold cutV cutD
  rw [r.length]
  exact (r.drop _).take _
def sl3 (d : D) (lo hi : Option Int) (M : Mp) (Q : K3) : Prop := match d with
  | .tup l => Q (.tup (cutD l lo hi)) M
  | .cl l => newL (cutD l lo hi) M Q
  | .ref p => match getL M p with
    | some l => newL (cutD l lo hi) M Q
    | none => False
  | _ => False
theorem cut_whole {xs : List D} {lo hi : Option Int} (h : HT.sIx xs.length 0 lo = 0 ∧ HT.sIx xs.length xs.length hi = xs.length) : cutD xs lo hi = xs := by
  unfold cutD
  rw [h.1, h.2]
  simp
theorem sl_ok : SlR X (fun x lo hi H Q => ∃ d M Q3, HR X.K M H ∧ Rep X.K H x d ∧ sl3 d lo hi M Q3 ∧ Lnk X.K H Q3 Q) := by
  intro pins s σ H x v vl vu lo hi sl Q I rx hs pl pu h
  obtain ⟨d, M, Q3, hr, r1, h, L⟩ := h
  unfold sl3 at h
  cases r1 with
  | tup s1 q1 =>
    refine sl_tupA pins s σ H _ v vl vu lo hi sl Q I rx hs pl pu ⟨_, _, rfl, s1, fun w => ?_, fun _ => newT_ok hr (q1.cut lo hi) h L⟩
    rw [q1.length] at w
    dsimp only at h
    rw [cut_whole w] at h
    exact L.here hr (.tup s1 q1) h
  | cl s1 q1 => exact sl_list pins s σ H _ v vl vu lo hi sl Q I rx hs pl pu ⟨_, _, rfl, s1.l, newL_ok hr (q1.cut lo hi) h L⟩
  | ref p =>
    dsimp only at h
    split at h
    · rename_i l e1
      obtain ⟨xs, hx, q1⟩ := hr.list (getL_some e1)
      exact sl_list pins s σ H _ v vl vu lo hi sl Q I rx hs pl pu ⟨_, _, rfl, SqL.of hx, newL_ok hr (q1.cut lo hi) h L⟩
    · exact h.elim
  | _ => exact h.elim
def rev3 : D → Mp → K3 → Prop
  | .cl l, M, Q => newL l.reverse M Q
  | .tup l, M, Q => Q (.tup l.reverse) M
  | .ref p, M, Q => match getL M p with
    | some l => newL l.reverse M Q
    | none => False
  | _, _, _ => False
end
end G3
set_option Elab.async false
set_option linter.all false
set_option maxRecDepth 100000
set_option maxHeartbeats 4000000
namespace G3
open PySem PySem.Spec PyProof.Rows L2
/-! ### built-in functions -/
inductive Bi | len | abs | int | max1 | max2 | min1 | min2 | sum | sorted | sortedP | list | tuple | all | any | gcd | lcm | isi (ts : List String)
def intsOf : List D → Option (List Int)
  | [] => some []
  | .int i :: r => match intsOf r with
    | some l => some (i :: l)
    | none => none
  | _ => none
def blsOf : List D → Option (List Bool)
  | [] => some []
  | .bl i :: r => match blsOf r with
    | some l => some (i :: l)
    | none => none
  | _ => none
theorem ints_map : ∀ ns : List Int, intsOf (ns.map D.int) = some ns
  | [] => rfl
  | n :: ns => by simp only [List.map_cons, intsOf, ints_map ns]
theorem bls_map : ∀ ns : List Bool, blsOf (ns.map D.bl) = some ns
  | [] => rfl
  | n :: ns => by simp only [List.map_cons, blsOf, bls_map ns]
theorem ints_some : ∀ {l : List D} {ns : List Int}, intsOf l = some ns → l = ns.map D.int
  | [], _, e => by cases e; rfl
  | .int i :: r, ns, e => by
    unfold intsOf at e
    cases h : intsOf r with
    | none => rw [h] at e; cases e
    | some m => rw [h] at e; cases e; rw [ints_some h]; rfl
  | .non :: _, _, e | .bl _ :: _, _, e | .str _ :: _, _, e | .tup _ :: _, _, e | .kt _ :: _, _, e | .cl _ :: _, _, e | .ref _ :: _, _, e | .ty _ :: _, _, e => by cases e
theorem bls_some : ∀ {l : List D} {ns : List Bool}, blsOf l = some ns → l = ns.map D.bl
  | [], _, e => by cases e; rfl
  | .bl i :: r, ns, e => by
    unfold blsOf at e
    cases h : blsOf r with
    | none => rw [h] at e; cases e
    | some m => rw [h] at e; cases e; rw [bls_some h]; rfl
  | .non :: _, _, e | .int _ :: _, _, e | .str _ :: _, _, e | .tup _ :: _, _, e | .kt _ :: _, _, e | .cl _ :: _, _, e | .ref _ :: _, _, e | .ty _ :: _, _, e => by cases e
/-- the items of a list at hand -/
def listAt (d : D) (M : Mp) : Option (List D) := match d with
  | .ref p => getL M p
  | .cl l => some l
  | _ => none
def seqAt (d : D) (M : Mp) : Option (List D) := match d with
  | .ref p => getL M p
  | .cl l => some l
  | .tup l => some l
  | _ => none
def maxI : List Int → Int
  | [] => 0
  | [x] => x
  | x :: r => max x (maxI r)
def minI : List Int → Int
  | [] => 0
  | [x] => x
  | x :: r => min x (minI r)
theorem maxI_mem : ∀ {l : List Int}, l ≠ [] → maxI l ∈ l
  | [x], _ => by simp [maxI]
  | x :: y :: r, _ => by
    have h := maxI_mem (l := y :: r) (by simp)
    show max x (maxI (y :: r)) ∈ x :: y :: r
    by_cases e : x ≤ maxI (y :: r)
    · rw [Int.max_eq_right e]; exact List.mem_cons_of_mem _ h
    · rw [Int.max_eq_left (by omega)]; simp
theorem le_maxI : ∀ {l : List Int} {y : Int}, y ∈ l → y ≤ maxI l
  | [x], y, h => by simp at h; subst h; simp [maxI]
  | x :: z :: r, y, h => by
    show y ≤ max x (maxI (z :: r))
    rcases List.mem_cons.mp h with rfl | h
    · exact Int.le_max_left _ _
    · exact Int.le_trans (le_maxI h) (Int.le_max_right _ _)
theorem minI_mem : ∀ {l : List Int}, l ≠ [] → minI l ∈ l
  | [x], _ => by simp [minI]
  | x :: y :: r, _ => by
    have h := minI_mem (l := y :: r) (by simp)
    show min x (minI (y :: r)) ∈ x :: y :: r
    by_cases e : x ≤ minI (y :: r)
    · rw [Int.min_eq_left e]; simp
    · rw [Int.min_eq_right (by omega)]; exact List.mem_cons_of_mem _ h
theorem minI_le : ∀ {l : List Int} {y : Int}, y ∈ l → minI l ≤ y
  | [x], y, h => by simp at h; subst h; simp [minI]
  | x :: z :: r, y, h => by
    show min x (minI (z :: r)) ≤ y
    rcases List.mem_cons.mp h with rfl | h
    · exact Int.min_le_left _ _
    · exact Int.le_trans (Int.min_le_right _ _) (minI_le h)
/-- the type's name -/
def tyName (d : D) (M : Mp) : Option String := match d with
  | .non => some "NoneType"
  | .bl _ => some "bool"
  | .int _ => some "int"
  | .str _ => some "str"
  | .tup _ => some "tuple"
  | .cl _ => some "list"
  | .ref p => match M p with
    | some (.lst _) => some "list"
    | some (.dic _) => some "dict"
    | some (.dit _) => none
    | none => none
  | .kt _ => some "tuple"
  | .ty _ => none
/-- which types isinstance is asked of, and what it says: the names of T's own line -/
def isTy (t : String) (T : String) : Bool := t == T || (t == "bool" && T == "int")
def askTy : List String := ["int", "bool", "str", "tuple", "list"]
def one (ds : List D) (f : D → Prop) : Prop := match ds with
  | [d] => f d
  | _ => False
def two (ds : List D) (f : D → D → Prop) : Prop := match ds with
  | [d, e] => f d e
  | _ => False
def isI (d : D) (f : Int → Prop) : Prop := match d with
  | .int i => f i
  | _ => False
theorem one_inv {ds : List D} {f : D → Prop} (h : one ds f) : ∃ d, ds = [d] ∧ f d := by
  unfold one at h
  split at h
  · exact ⟨_, rfl, h⟩
  · exact h.elim
theorem two_inv {ds : List D} {f : D → D → Prop} (h : two ds f) : ∃ d e, ds = [d, e] ∧ f d e := by
  unfold two at h
  split at h
  · exact ⟨_, _, rfl, h⟩
  · exact h.elim
theorem isI_inv {d : D} {f : Int → Prop} (h : isI d f) : ∃ i, d = .int i ∧ f i := by
  unfold isI at h
  split at h
  · exact ⟨_, rfl, h⟩
  · exact h.elim
def some3 {α : Type} (o : Option α) (f : α → Prop) : Prop := match o with
  | some x => f x
  | none => False
theorem some3_inv {α : Type} {o : Option α} {f : α → Prop} (h : some3 o f) : ∃ i, o = some i ∧ f i := by
  unfold some3 at h
  split at h
  · exact ⟨_, rfl, h⟩
  · exact h.elim
def keyV : Key → D
  | .inl i => .int i
  | .inr x => .str x
def len3 (d : D) (M : Mp) (Q : K3) : Prop := match d with
  | .str x => x.length ≤ sizeLine ∧ Q (.int x.length) M
  | .tup l => Q (.int l.length) M
  | .cl l => Q (.int l.length) M
  | .ref p => (match M p with
    | some (.lst l) => Q (.int l.length) M
    | some (.dic l) => Q (.int l.length) M
    | some (.dit _) => False
    | none => False)
  | _ => False
def int3 (d : D) (M : Mp) (Q : K3) : Prop := match d with
  | .int i => Q (.int i) M
  | .bl b => Q (.int (if b then 1 else 0)) M
  | _ => False
def list3 (d : D) (M : Mp) (Q : K3) : Prop := match d with
  | .ref p => (match M p with
    | some (.lst l) => newL l M Q
    | some (.dic l) => newL (l.map fun kv => keyV kv.1) M Q
    | some (.dit _) => False
    | none => False)
  | .cl l => newL l M Q
  | .tup l => newL l M Q
  | _ => False
/-- pairs of ints, each a tuple of its own -/
def kpD (x : Int × Int) : D := .kt [.int x.1, .int x.2]
def prsOf : List D → Option (List (Int × Int))
  | [] => some []
  | .kt [.int i, .int j] :: r => match prsOf r with
    | some l => some ((i, j) :: l)
    | none => none
  | _ => none
def lexLe (x y : Int × Int) : Prop := x.1 < y.1 ∨ (x.1 = y.1 ∧ x.2 ≤ y.2)
theorem prs_map : ∀ ps : List (Int × Int), prsOf (ps.map kpD) = some ps
  | [] => rfl
  | x :: ps => by
    show (match prsOf (ps.map kpD) with | some l => some ((x.1, x.2) :: l) | none => none) = _
    rw [prs_map ps]
theorem prs_some : ∀ {l : List D} {ps : List (Int × Int)}, prsOf l = some ps → l = ps.map kpD
  | [], _, e => by cases e; rfl
  | d :: r, ps, e => by
    unfold prsOf at e
    split at e
    · rename_i h; cases h
    · rename_i i j r' h
      cases h
      cases q : prsOf r with
      | none => rw [q] at e; cases e
      | some m => rw [q] at e; cases e; rw [prs_some q]; rfl
    · cases e
def LcmOk (i : Int) : Prop := i.natAbs < 2 ^ 64 ∨ i.natAbs.log2 < 8000
def bi3 : Bi → List D → Mp → K3 → Prop
  | .len, ds, M, Q => one ds fun d => len3 d M Q
  | .abs, ds, M, Q => one ds fun d => isI d fun i => Q (.int (i.natAbs : Int)) M
  | .int, ds, M, Q => one ds fun d => int3 d M Q
  | .max2, ds, M, Q => two ds fun d e => isI d fun i => isI e fun j => Q (.int (max i j)) M
  | .min2, ds, M, Q => two ds fun d e => isI d fun i => isI e fun j => Q (.int (min i j)) M
  | .max1, ds, M, Q => one ds fun d => some3 ((listAt d M).bind intsOf) fun ns => ns ≠ [] ∧ Q (.int (maxI ns)) M
  | .min1, ds, M, Q => one ds fun d => some3 ((listAt d M).bind intsOf) fun ns => ns ≠ [] ∧ Q (.int (minI ns)) M
  | .sum, ds, M, Q => one ds fun d => some3 ((seqAt d M).bind intsOf) fun ns => Q (.int ns.sum) M
  | .sorted, ds, M, Q => one ds fun d => some3 ((listAt d M).bind intsOf) fun ns => ∀ ns' : List Int, ns'.Perm ns → ns'.Pairwise (· ≤ ·) → newL (ns'.map .int) M Q
  | .sortedP, ds, M, Q => one ds fun d => some3 ((listAt d M).bind prsOf) fun ps => ∀ ps' : List (Int × Int), ps'.Perm ps → ps'.Pairwise lexLe → newL (ps'.map kpD) M Q
  | .list, ds, M, Q => one ds fun d => list3 d M Q
  | .tuple, ds, M, Q => one ds fun d => some3 (seqAt d M) fun l => Q (.tup l) M
  | .all, ds, M, Q => one ds fun d => some3 ((listAt d M).bind blsOf) fun bs => Q (.bl (bs.all id)) M
  | .any, ds, M, Q => one ds fun d => some3 ((listAt d M).bind blsOf) fun bs => Q (.bl (bs.any id)) M
  | .gcd, ds, M, Q => two ds fun d e => isI d fun i => isI e fun j => Q (.int ((Nat.gcd i.natAbs j.natAbs : Nat) : Int)) M
  | .lcm, ds, M, Q => two ds fun d e => isI d fun i => isI e fun j => LcmOk i ∧ LcmOk j ∧ Q (.int ((Nat.lcm i.natAbs j.natAbs : Nat) : Int)) M
  | .isi ts, ds, M, Q => two ds fun d e => some3 (tyName d M) fun t => Q (.bl (ts.any fun T => isTy t T)) M
section
variable {X : Cx}
theorem Reps1 {K : PySem.W.Frag} {H : Hp} {xs : List V} {d : D} (r : Reps K H xs [d]) : ∃ v, xs = [v] ∧ Rep K H v d := by
  cases r with
  | cons r rs => cases rs; exact ⟨_, rfl, r⟩
theorem Reps2 {K : PySem.W.Frag} {H : Hp} {xs : List V} {d e : D} (r : Reps K H xs [d, e]) : ∃ v w, xs = [v, w] ∧ Rep K H v d ∧ Rep K H w e := by
  cases r with
  | cons r rs =>
    obtain ⟨w, rfl, r'⟩ := Reps1 rs
    exact ⟨_, _, rfl, r, r'⟩
theorem listAt_ok {K : PySem.W.Frag} {H : Hp} {M : Mp} {d : D} {v : V} {l : List D} (hr : HR K M H) (r : Rep K H v d) (e : listAt d M = some l) : ∃ a xs, v = .ref a ∧ SqL K H a xs ∧ Reps K H xs l := by
  unfold listAt at e
  cases r with
  | ref p =>
    obtain ⟨xs, hx, q⟩ := hr.list (getL_some e)
    exact ⟨_, xs, rfl, SqL.of hx, q⟩
  | cl s q => cases e; exact ⟨_, _, rfl, s.l, q⟩
  | _ => cases e
theorem intsAt {K : PySem.W.Frag} {H : Hp} {M : Mp} {d : D} {v : V} {ns : List Int} (hr : HR K M H) (r : Rep K H v d) (e : (listAt d M).bind intsOf = some ns) : ∃ a, v = .ref a ∧ SqL K H a (ns.map V.int) := by
  cases h : listAt d M with
  | none => rw [h] at e; cases e
  | some l =>
    rw [h] at e
    obtain ⟨a, xs, rfl, s, q⟩ := listAt_ok hr r h
    have e2 := ints_some e
    subst e2
    rw [q.ints] at s
    exact ⟨a, rfl, s⟩
theorem blsAt {K : PySem.W.Frag} {H : Hp} {M : Mp} {d : D} {v : V} {ns : List Bool} (hr : HR K M H) (r : Rep K H v d) (e : (listAt d M).bind blsOf = some ns) : ∃ a, v = .ref a ∧ SqL K H a (ns.map V.bl) := by
  cases h : listAt d M with
  | none => rw [h] at e; cases e
  | some l =>
    rw [h] at e
    obtain ⟨a, xs, rfl, s, q⟩ := listAt_ok hr r h
    have e2 := bls_some e
    subst e2
    rw [q.bls] at s
    exact ⟨a, rfl, s⟩
theorem PK3.length {K : PySem.W.Frag} {H : Hp} {xs : List (Key × V)} {l : List (Key × D)} (r : PK3 K H xs l) : xs.length = l.length := Paired.length r
theorem len_ok : CallR X (.builtin "len") (liftC X.K (bi3 .len)) := by
  intro pins s σ H xs us Q I rx h
  obtain ⟨ds, M, Q3, hr, rs, hh, L⟩ := h
  obtain ⟨d, rfl, h⟩ := one_inv hh
  obtain ⟨v, rfl, r⟩ := Reps1 rs
  unfold len3 at h
  cases r with
  | str x => exact call_len pins s σ H _ us Q I rx ⟨_, _, rfl, ⟨h.1, rfl⟩, L.here hr (.int _) h.2⟩
  | tup s1 q => exact call_len pins s σ H _ us Q I rx ⟨_, _, rfl, .inr ⟨_, s1, rfl⟩, L.here hr (.int _) (by rw [q.length]; exact h)⟩
  | cl s1 q => exact call_len pins s σ H _ us Q I rx ⟨_, _, rfl, .inl ⟨_, s1.l, rfl⟩, L.here hr (.int _) (by rw [q.length]; exact h)⟩
  | ref p =>
    dsimp only at h
    split at h
    · rename_i l e
      obtain ⟨xs, hx, q⟩ := hr.list e
      exact call_len pins s σ H _ us Q I rx ⟨_, _, rfl, .inl ⟨_, SqL.of hx, rfl⟩, L.here hr (.int _) (by rw [q.length]; exact h)⟩
    · rename_i l e
      obtain ⟨xs, hx, q⟩ := hr.dic e
      exact call_lenD pins s σ H _ us Q I rx ⟨_, _, rfl, hx, L.here hr (.int _) (by rw [PK3.length q]; exact h)⟩
    · exact h.elim
    · exact h.elim
  | _ => exact h.elim
theorem abs_ok : CallR X (.builtin "abs") (liftC X.K (bi3 .abs)) := by
  intro pins s σ H xs us Q I rx h
  obtain ⟨ds, M, Q3, hr, rs, hh, L⟩ := h
  obtain ⟨d, rfl, h⟩ := one_inv hh
  obtain ⟨v, rfl, r⟩ := Reps1 rs
  obtain ⟨i, rfl, h1⟩ := isI_inv h
  cases r
  refine call_abs pins s σ H _ us Q I rx ⟨_, rfl, L.here hr (.int _) ?_⟩
  have e : (if i < 0 then -i else i) = (i.natAbs : Int) := by split <;> omega
  rw [e]; exact h1
theorem int_ok : CallR X (.type "int") (liftC X.K (bi3 .int)) := by
  intro pins s σ H xs us Q I rx h
  obtain ⟨ds, M, Q3, hr, rs, hh, L⟩ := h
  obtain ⟨d, rfl, h⟩ := one_inv hh
  obtain ⟨v, rfl, r⟩ := Reps1 rs
  unfold int3 at h
  cases r with
  | int i => exact call_int1 pins s σ H _ us Q I rx (.inl ⟨_, rfl, L.here hr (.int _) h⟩)
  | bl i => exact call_int1 pins s σ H _ us Q I rx (.inr ⟨_, rfl, L.here hr (.int _) h⟩)
  | _ => exact h.elim
theorem max1_ok (hc : X.calm = true) : CallR X (.builtin "max") (liftC X.K (bi3 .max1)) := by
  intro pins s σ H xs us Q I rx h
  obtain ⟨ds, M, Q3, hr, rs, hh, L⟩ := h
  obtain ⟨d, rfl, h⟩ := one_inv hh
  obtain ⟨v, rfl, r⟩ := Reps1 rs
  obtain ⟨ns, e, h1⟩ := some3_inv h
  obtain ⟨a, rfl, s1⟩ := intsAt hr r e
  refine cr_max hc pins s σ H _ us Q I rx ⟨_, ns, rfl, s1, List.length_pos_iff.mpr h1.1, fun m hm hle => L.here hr (.int _) ?_⟩
  have e : m = maxI ns := by
    have g1 := le_maxI hm
    have g2 := hle _ (maxI_mem h1.1)
    omega
  rw [e]; exact h1.2
theorem min1_ok (hc : X.calm = true) : CallR X (.builtin "min") (liftC X.K (bi3 .min1)) := by
  intro pins s σ H xs us Q I rx h
  obtain ⟨ds, M, Q3, hr, rs, hh, L⟩ := h
  obtain ⟨d, rfl, h⟩ := one_inv hh
  obtain ⟨v, rfl, r⟩ := Reps1 rs
  obtain ⟨ns, e, h1⟩ := some3_inv h
  obtain ⟨a, rfl, s1⟩ := intsAt hr r e
  refine cr_min hc pins s σ H _ us Q I rx ⟨_, ns, rfl, s1, List.length_pos_iff.mpr h1.1, fun m hm hle => L.here hr (.int _) ?_⟩
  have e : m = minI ns := by
    have g1 := minI_le hm
    have g2 := hle _ (minI_mem h1.1)
    omega
  rw [e]; exact h1.2
theorem max2_ok (hc : X.calm = true) : CallR X (.builtin "max") (liftC X.K (bi3 .max2)) := by
  intro pins s σ H xs us Q I rx h
  obtain ⟨ds, M, Q3, hr, rs, hh, L⟩ := h
  obtain ⟨d, e, rfl, h⟩ := two_inv hh
  obtain ⟨v, w, rfl, r1, r2⟩ := Reps2 rs
  obtain ⟨i, rfl, h1⟩ := isI_inv h
  obtain ⟨j, rfl, h2⟩ := isI_inv h1
  cases r1; cases r2
  refine call_max2 hc pins s σ H _ us Q I rx ⟨_, _, rfl, L.here hr (.int _) ?_⟩
  have e : (if j > i then j else i) = max i j := by split <;> omega
  rw [e]; exact h2
theorem min2_ok (hc : X.calm = true) : CallR X (.builtin "min") (liftC X.K (bi3 .min2)) := by
  intro pins s σ H xs us Q I rx h
  obtain ⟨ds, M, Q3, hr, rs, hh, L⟩ := h
  obtain ⟨d, e, rfl, h⟩ := two_inv hh
  obtain ⟨v, w, rfl, r1, r2⟩ := Reps2 rs
  obtain ⟨i, rfl, h1⟩ := isI_inv h
  obtain ⟨j, rfl, h2⟩ := isI_inv h1
  cases r1; cases r2
  refine call_min2 hc pins s σ H _ us Q I rx ⟨_, _, rfl, L.here hr (.int _) ?_⟩
  have e : (if j < i then j else i) = min i j := by split <;> omega
  rw [e]; exact h2
theorem cr_sumT (hc : X.calm = true) {pins : List (Addr × Obj)} {σ : L2.St} {H : Hp} {s : Shared} {a : Addr} {ns : List Int} {Q : VK} (I : L2.Inv X pins σ H s) (hs : SqT X.K H a (ns.map V.int)) (q : Q (.int ns.sum) H) :
    wpAny (model X.prog X.w) X.A (call (.builtin "sum") [.ref a]) (EP X pins σ Q) X.xe s := by
  obtain ⟨its, rv, p, _⟩ := I.tuple hs
  have hi := rv.ints
  obtain ⟨xs, e⟩ := hi.allInts.items
  have hn : numsOf (intItems xs).toList = ns := by rw [← e]; exact hi.numsOf
  rw [nums_intItems] at hn
  have p' : s.heap.IsTuple a (intItems xs) := by rw [← e]; exact p
  refine PySem.W.ktm_sumG (I.ok.hd hc) p' fun h' tk t' hk => ⟨.int _, H, I.kept hk, ⟨_, rfl⟩, ?_⟩
  rw [preSum_eq, List.take_of_length_le (by simp), hn]
  exact q
theorem sum_ok (hc : X.calm = true) : CallR X (.builtin "sum") (liftC X.K (bi3 .sum)) := by
  intro pins s σ H xs us Q I rx h
  obtain ⟨ds, M, Q3, hr, rs, hh, L⟩ := h
  obtain ⟨d, rfl, h⟩ := one_inv hh
  obtain ⟨v, rfl, r⟩ := Reps1 rs
  obtain ⟨ns, e, h1⟩ := some3_inv h
  by_cases t : ∃ l, d = .tup l
  · obtain ⟨l, rfl⟩ := t
    have e2 := ints_some (show intsOf l = some ns from e)
    subst e2
    cases r with
    | tup s1 q =>
      rw [q.ints] at s1
      rw [Vals.ref1 rx]
      exact cr_sumT hc I s1 (L.here hr (.int _) h1)
  · have e3 : seqAt d M = listAt d M := by
      cases d <;> first | rfl | exact absurd ⟨_, rfl⟩ t
    rw [e3] at e
    obtain ⟨a, rfl, s1⟩ := intsAt hr r e
    exact cr_sum hc pins s σ H _ us Q I rx ⟨_, ns, rfl, s1, L.here hr (.int _) h1⟩
theorem sorted_ok : CallR X (.builtin "sorted") (liftC X.K (bi3 .sorted)) := by
  intro pins s σ H xs us Q I rx h
  obtain ⟨ds, M, Q3, hr, rs, hh, L⟩ := h
  obtain ⟨d, rfl, h⟩ := one_inv hh
  obtain ⟨v, rfl, r⟩ := Reps1 rs
  obtain ⟨ns, e, h1⟩ := some3_inv h
  obtain ⟨a, rfl, s1⟩ := intsAt hr r e
  exact cr_sortedI pins s σ H _ us Q I rx ⟨_, ns, rfl, s1, fun ns' p g1 g2 e => newL_ok hr (Reps.of_ints ns') (h1 ns' g1 g2) L p e⟩
/-- a pair's numbers -/
def prH (H : Hp) : V → Int × Int
  | .ref t => match H t with
    | some (.tup [.int i, .int j]) => (i, j)
    | _ => (0, 0)
  | _ => (0, 0)
theorem Reps.prs {K : PySem.W.Frag} {H : Hp} : ∀ {xs : List V} {ps : List (Int × Int)}, Reps K H xs (ps.map kpD) → (∀ x ∈ xs, ∃ t, x = V.ref t ∧ H t = some (.tup [.int (prH H x).1, .int (prH H x).2])) ∧ xs.map (prH H) = ps
  | _, [], r => by cases r; exact ⟨fun x h => by simp at h, rfl⟩
  | _, p :: ps, r => by
    cases r with
    | cons r rs =>
      obtain ⟨h1, h2⟩ := Reps.prs rs
      cases r with
      | @kt b _ _ s q =>
        obtain ⟨v, w, rfl, r1, r2⟩ := Reps2 q
        cases r1; cases r2
        have e : prH H (.ref b) = p := by
          show (match H b with | some (.tup [.int i, .int j]) => (i, j) | _ => (0, 0)) = p
          rw [s]
        refine ⟨fun x hx => ?_, by rw [List.map_cons, e, h2]⟩
        rcases List.mem_cons.mp hx with rfl | hx
        · exact ⟨_, rfl, by rw [e]; exact s⟩
        · exact h1 x hx
theorem Reps.of_prs {K : PySem.W.Frag} {H : Hp} : ∀ {xs : List V}, (∀ x ∈ xs, ∃ t, x = V.ref t ∧ H t = some (.tup [.int (prH H x).1, .int (prH H x).2])) → Reps K H xs ((xs.map (prH H)).map kpD)
  | [], _ => .nil
  | x :: xs, h => by
    obtain ⟨t, rfl, e⟩ := h x List.mem_cons_self
    exact .cons (.kt e (.cons (.int _) (.cons (.int _) .nil))) (Reps.of_prs fun y hy => h y (List.mem_cons_of_mem _ hy))
theorem sortedP_ok : CallR X (.builtin "sorted") (liftC X.K (bi3 .sortedP)) := by
  intro pins s σ H xs us Q I rx h
  obtain ⟨ds, M, Q3, hr, rs, hh, L⟩ := h
  obtain ⟨d, rfl, h⟩ := one_inv hh
  obtain ⟨v, rfl, r⟩ := Reps1 rs
  obtain ⟨ps, e, h1⟩ := some3_inv h
  cases hl : listAt d M with
  | none => rw [hl] at e; cases e
  | some l =>
    rw [hl] at e
    obtain ⟨a, xs, rfl, s1, q⟩ := listAt_ok hr r hl
    have e2 := prs_some (show prsOf l = some ps from e)
    subst e2
    obtain ⟨g1, g2⟩ := q.prs
    refine cr_sortedPO pins s σ H _ us Q I rx ⟨a, xs, prH H, rfl, s1, g1, fun ys p hs hb np => ?_⟩
    have hp := hb.perm
    have g3 : ∀ y ∈ ys, ∃ t, y = V.ref t ∧ H t = some (.tup [.int (prH H y).1, .int (prH H y).2]) := fun y hy => g1 y (hp.mem_iff.mp hy)
    refine newL_ok hr (Reps.of_prs g3) (h1 (ys.map (prH H)) ?_ ?_) L p np
    · rw [← g2]; exact hp.map _
    · refine List.pairwise_map.mpr ?_
      refine List.Pairwise.imp ?_ hs
      intro x y hxy
      have := SrtO.lexB_no.mp hxy
      unfold lexLe
      omega
theorem all_ok (hc : X.calm = true) : CallR X (.builtin "all") (liftC X.K (bi3 .all)) := by
  intro pins s σ H xs us Q I rx h
  obtain ⟨ds, M, Q3, hr, rs, hh, L⟩ := h
  obtain ⟨d, rfl, h⟩ := one_inv hh
  obtain ⟨v, rfl, r⟩ := Reps1 rs
  obtain ⟨ns, e, h1⟩ := some3_inv h
  obtain ⟨a, rfl, s1⟩ := blsAt hr r e
  exact cr_all hc pins s σ H _ us Q I rx ⟨_, ns, rfl, s1, L.here hr (.bl _) h1⟩
theorem any_ok (hc : X.calm = true) : CallR X (.builtin "any") (liftC X.K (bi3 .any)) := by
  intro pins s σ H xs us Q I rx h
  obtain ⟨ds, M, Q3, hr, rs, hh, L⟩ := h
  obtain ⟨d, rfl, h⟩ := one_inv hh
  obtain ⟨v, rfl, r⟩ := Reps1 rs
  obtain ⟨ns, e, h1⟩ := some3_inv h
  obtain ⟨a, rfl, s1⟩ := blsAt hr r e
  exact cr_any hc pins s σ H _ us Q I rx ⟨_, ns, rfl, s1, L.here hr (.bl _) h1⟩
theorem keys_reps {K : PySem.W.Frag} {H : Hp} : ∀ {xs : List (Key × V)} {l : List (Key × D)}, PK3 K H xs l → Reps K H (xs.map fun kv => kV kv.1) (l.map fun kv => keyV kv.1)
  | _, _, .nil => .nil
  | p :: _, q :: _, .cons r rs => by
    refine .cons ?_ (keys_reps rs)
    show Rep K H (kV p.1) (keyV q.1)
    rw [← r.1]
    cases p.1 with
    | inl i => exact .int i
    | inr i => exact .str i
theorem list_ok (hc : X.calm = true) : CallR X (.type "list") (liftC X.K (bi3 .list)) := by
  intro pins s σ H xs us Q I rx h
  obtain ⟨ds, M, Q3, hr, rs, hh, L⟩ := h
  obtain ⟨d, rfl, h⟩ := one_inv hh
  obtain ⟨v, rfl, r⟩ := Reps1 rs
  unfold list3 at h
  cases r with
  | tup s1 q => exact call_list_of pins s σ H _ us Q I rx ⟨_, _, rfl, .inr s1, newL_ok hr q h L⟩
  | cl s1 q => exact call_list_of pins s σ H _ us Q I rx ⟨_, _, rfl, .inl s1.l, newL_ok hr q h L⟩
  | ref p =>
    dsimp only at h
    split at h
    · rename_i l e
      obtain ⟨xs, hx, q⟩ := hr.list e
      exact call_list_of pins s σ H _ us Q I rx ⟨_, _, rfl, .inl (SqL.of hx), newL_ok hr q h L⟩
    · rename_i l e
      obtain ⟨xs, hx, q⟩ := hr.dic e
      exact call_list_dK hc pins s σ H _ us Q I rx ⟨_, _, rfl, hx, newL_ok hr (keys_reps q) h L⟩
    · exact h.elim
    · exact h.elim
  | _ => exact h.elim
theorem tuple_ok : CallR X (.type "tuple") (liftC X.K (bi3 .tuple)) := by
  intro pins s σ H xs us Q I rx h
  obtain ⟨ds, M, Q3, hr, rs, hh, L⟩ := h
  obtain ⟨d, rfl, h⟩ := one_inv hh
  obtain ⟨v, rfl, r⟩ := Reps1 rs
  obtain ⟨l, e, h1⟩ := some3_inv h
  cases r with
  | tup s1 q => cases e; exact call_tuple_of pins s σ H _ us Q I rx ⟨_, _, rfl, .inr ⟨s1, L.here hr (.tup s1 q) h1⟩⟩
  | cl s1 q => cases e; exact call_tuple_of pins s σ H _ us Q I rx ⟨_, _, rfl, .inl ⟨s1.l, newT_ok hr q h1 L⟩⟩
  | ref p =>
    obtain ⟨xs, hx, q⟩ := hr.list (getL_some e)
    exact call_tuple_of pins s σ H _ us Q I rx ⟨_, _, rfl, .inl ⟨SqL.of hx, newT_ok hr q h1 L⟩⟩
  | _ => cases e
theorem gcd_ok : CallR X (.builtin "math.gcd") (liftC X.K (bi3 .gcd)) := by
  intro pins s σ H xs us Q I rx h
  obtain ⟨ds, M, Q3, hr, rs, hh, L⟩ := h
  obtain ⟨d, e, rfl, h⟩ := two_inv hh
  obtain ⟨v, w, rfl, r1, r2⟩ := Reps2 rs
  obtain ⟨i, rfl, h1⟩ := isI_inv h
  obtain ⟨j, rfl, h2⟩ := isI_inv h1
  cases r1; cases r2
  exact cr_gcd pins s σ H _ us Q I rx ⟨_, _, rfl, L.here hr (.int _) h2⟩
theorem LcmOk.lt {i : Int} (h : LcmOk i) : i.natAbs < 2 ^ 8000 := by
  rcases h with h | h
  · exact Nat.lt_of_lt_of_le h (Nat.pow_le_pow_right (by decide) (by decide))
  · by_cases h0 : i.natAbs = 0
    · rw [h0]; exact Nat.two_pow_pos _
    · exact (Nat.log2_lt h0).mp h
theorem g3_lcm {prog : Program} {w : World} {A : Around} {E : Value → Shared → Prop} {s : Shared} {Q : Value → Shared → Prop} {a b : Int} {t u : Tok} (ha : LcmOk a) (hb : LcmOk b) (h : Q (.int ((a.natAbs.lcm b.natAbs : Nat) : Int) s.toks) { s with toks := s.toks + 1 }) :
    wpAny (model prog w) A (call (.builtin "math.lcm") [.int a t, .int b u]) Q E s := by
  have h1 := ha.lt
  have h2 := hb.lt
  have one : (1 : Nat) < 2 ^ 8000 := Nat.one_lt_two_pow (by decide)
  have l1 : (max 1 a.natAbs).log2 ≤ 7999 := PySem.W.mg_log (by show max 1 a.natAbs < 2 ^ 8000; exact Nat.max_lt.mpr ⟨one, h1⟩)
  have l2 : (max a.natAbs b.natAbs).log2 ≤ 7999 := PySem.W.mg_log (by show max a.natAbs b.natAbs < 2 ^ 8000; exact Nat.max_lt.mpr ⟨h1, h2⟩)
  have e1 : (Nat.lcm 1 a.natAbs).lcm b.natAbs = a.natAbs.lcm b.natAbs := by rw [PySem.W.mc_lcm_one]
  have hs : ((((Nat.lcm 1 a.natAbs).lcm b.natAbs : Nat) : Int)).natAbs.log2 < bitsLine := by
    rw [e1, Int.natAbs_natCast]
    refine PySem.W.mc_size (k := 250) (Nat.le_trans (PySem.W.mc_lcm_le _ _) ?_) (by decide)
    rw [show 64 * 250 = 8000 + 8000 from rfl, Nat.pow_add]
    exact Nat.mul_le_mul (Nat.le_of_lt h1) (Nat.le_of_lt h2)
  have := call_function_meets (prog := prog) (w := w) (A := A) (E := E) (s := s) (Q := Q) PySem.W.MGF.kind_lcm PySem.W.MGF.plain_lcm PySem.W.MGF.entry_lcm (PySem.W.MGF.args_lcm _ _) (PySem.W.mg_run_lcm a t b u (by omega) (by omega) hs).meets (by rw [e1]; exact h)
  exact this
theorem lcm_ok : CallR X (.builtin "math.lcm") (liftC X.K (bi3 .lcm)) := by
  intro pins s σ H xs us Q I rx h
  obtain ⟨ds, M, Q3, hr, rs, hh, L⟩ := h
  obtain ⟨d, e, rfl, h⟩ := two_inv hh
  obtain ⟨v, w, rfl, r1, r2⟩ := Reps2 rs
  obtain ⟨i, rfl, h1⟩ := isI_inv h
  obtain ⟨j, rfl, h2⟩ := isI_inv h1
  cases r1; cases r2
  obtain ⟨t, u, rfl⟩ := Vals.int2 rx
  exact g3_lcm h2.1 h2.2.1 ⟨.int _, H, I.tok _, ⟨_, rfl⟩, L.here hr (.int _) h2.2.2⟩
/-! isinstance -/
theorem tyX_ok {K : PySem.W.Frag} {H : Hp} {M : Mp} {d : D} {v : V} {t : String} (hr : HR K M H) (r : Rep K H v d) (e : tyName d M = some t) : TyX K H v (.type t) := by
  unfold tyName at e
  cases r with
  | non => cases e; exact .base .non
  | bl b => cases e; exact .base (.bl b)
  | int b => cases e; exact .base (.int b)
  | str b => cases e; exact .base (.str b)
  | ty b => cases e
  | tup s q =>
    cases e
    rcases s with (s | ⟨o, s⟩) | ⟨o, its, n, hk, hc, _⟩
    · exact .base (.tup s)
    · exact .fTuple s
    · exact .kTuple hk hc
  | cl s q =>
    cases e
    rcases s with ⟨o, s⟩ | ⟨o, its, n, hk, hc, _⟩
    · exact .base (.frz s)
    · exact .kList hk hc
  | kt s q =>
    cases e
    exact .base (.tup s)
  | ref p =>
    dsimp only at e
    split at e
    · rename_i l e1
      cases e
      obtain ⟨xs, hx, _⟩ := hr.list e1
      exact .base (.lst hx)
    · rename_i l e1
      cases e
      obtain ⟨xs, hx, _⟩ := hr.dic e1
      exact .base (.dK hx)
    · cases e
    · cases e
def tyNames : List String := ["NoneType", "bool", "int", "str", "tuple", "list", "dict"]
theorem tyName_in {d : D} {M : Mp} {t : String} (e : tyName d M = some t) : t ∈ tyNames := by
  unfold tyName at e
  cases d with
  | ref p =>
    dsimp only at e
    split at e <;> first | (cases e; decide) | cases e
  | ty n => cases e
  | _ => cases e; decide
theorem kit_all : ∀ t ∈ tyNames, ∀ T ∈ askTy, kitB t T = some (isTy t T) := by decide +kernel
theorem kitAny_ok {K : PySem.W.Frag} {t : String} (ht : t ∈ tyNames) : ∀ {ts : List String}, (∀ T ∈ ts, T ∈ askTy) → PySem.W.kitAny K (.type t) (ts.map Value.type) = some (ts.any fun T => isTy t T)
  | [], _ => rfl
  | T :: ts, h => by
    have h1 := kit_ty (K := K) (kit_all t ht T (h T (by simp)))
    have h2 := kitAny_ok (K := K) ht (ts := ts) fun T' hT => h T' (List.mem_cons_of_mem _ hT)
    refine kitAny_cons h1 (fun e => ?_) (fun e => ?_)
    · rw [List.any_cons, e, Bool.false_or]; exact h2
    · rw [List.any_cons, e]; rfl
theorem Reps.tys {K : PySem.W.Frag} {H : Hp} : ∀ {ts : List String} {xs : List V}, Reps K H xs (ts.map D.ty) → Paired ClsV xs (ts.map Value.type)
  | [], _, r => by cases r; exact .nil
  | t :: ts, _, r => by
    cases r with
    | cons r rs => cases r; exact .cons (.ty _) (Reps.tys rs)
/-- the second argument is one type or a display of types -/
def TysD (d : D) (ts : List String) : Prop := match ts with
  | [t] => d = .ty t ∨ d = .tup [.ty t]
  | _ => d = .tup (ts.map .ty)
end
end G3
set_option Elab.async false
set_option linter.all false
set_option maxRecDepth 100000
set_option maxHeartbeats 4000000
/-! own syntax, what it asks -/
namespace G3
open PySem PySem.Spec PyProof.Rows L2

/-! ### methods of lists and dicts -/
inductive Me | append | extend | pop | popAt | reverse | insert | index | get1 | get2
def Me.ty : Me → String
  | .get1 | .get2 => "dict"
  | _ => "list"
def isTyM (T : String) (d : D) (M : Mp) : Prop := match d with
  | .ref p => (match M p with
    | some (.lst _) => T = "list"
    | some (.dic _) => T = "dict"
    | some (.dit _) => False
    | none => False)
  | .cl _ => T = "list"
  | _ => False
def refL (d : D) (M : Mp) (f : Addr → List D → Prop) : Prop := match d with
  | .ref p => (match M p with
    | some (.lst l) => f p l
    | _ => False)
  | _ => False
def refD (d : D) (M : Mp) (f : Addr → List (Key × D) → Prop) : Prop := match d with
  | .ref p => (match M p with
    | some (.dic l) => f p l
    | _ => False)
  | _ => False
theorem refL_inv {d : D} {M : Mp} {f : Addr → List D → Prop} (h : refL d M f) : ∃ p l, d = .ref p ∧ M p = some (.lst l) ∧ f p l := by
  unfold refL at h
  split at h
  · split at h
    · exact ⟨_, _, rfl, by assumption, h⟩
    · exact h.elim
  · exact h.elim
theorem refD_inv {d : D} {M : Mp} {f : Addr → List (Key × D) → Prop} (h : refD d M f) : ∃ p l, d = .ref p ∧ M p = some (.dic l) ∧ f p l := by
  unfold refD at h
  split at h
  · split at h
    · exact ⟨_, _, rfl, by assumption, h⟩
    · exact h.elim
  · exact h.elim
def me3 : Me → D → List D → Mp → K3 → Prop
  | .append, d, ds, M, Q => one ds fun x => refL d M fun p l => l.length < sizeLine ∧ Q .non (put M p (.lst (l ++ [x])))
  | .extend, d, ds, M, Q => one ds fun x => refL d M fun p l => refL x M fun _ m => l.length + m.length ≤ sizeLine ∧ Q .non (put M p (.lst (l ++ m)))
  | .pop, d, ds, M, Q => ds = [] ∧ refL d M fun p l => some3 l[l.length - 1]? fun x => Q x (put M p (.lst l.dropLast))
  | .popAt, d, ds, M, Q => one ds fun x => isI x fun i => refL d M fun p l => some3 (ixN l.length i) fun k => some3 l[k]? fun y => Q y (put M p (.lst (l.eraseIdx k)))
  | .reverse, d, ds, M, Q => ds = [] ∧ refL d M fun p l => Q .non (put M p (.lst l.reverse))
  | .insert, d, ds, M, Q => two ds fun x y => isI x fun i => refL d M fun p l => l.length < sizeLine ∧ 0 ≤ i ∧ i < 2 ^ 63 ∧ Q .non (put M p (.lst (l.take i.toNat ++ [y] ++ l.drop i.toNat)))
  | .index, d, ds, M, Q => one ds fun x => some3 (listAt d M) fun l => flatD x = true ∧ l.all flatD = true ∧ ∃ j z, l[j]? = some z ∧ eqF z x = true ∧ (∀ m z', m < j → l[m]? = some z' → eqF z' x = false) ∧ Q (.int (j : Nat)) M
  | .get1, d, ds, M, Q => one ds fun x => some3 (keyD x) fun k => refD d M fun _ l => Q ((getK l k).getD .non) M
  | .get2, d, ds, M, Q => two ds fun x y => some3 (keyD x) fun k => refD d M fun _ l => Q ((getK l k).getD y) M

/-! ### syntax -/
/-- what a module's name may stand for -/
inductive GV where
  | int (i : Int)
  | tup (ns : List Int)
  deriving DecidableEq
def GV.d : GV → D
  | .int i => .int i
  | .tup ns => .tup (ns.map .int)
mutual
inductive Tn where
  | nm (i : Nat)
  | tup (ts : TnL)
inductive TnL where
  | nil
  | cons (t : Tn) (ts : TnL)
end
mutual
inductive E where
  | v (i : Nat)
  | c (d : D)
  | tup (es : EL)
  | ktup (es : EL)
  | lst (es : EL)
  | bin (o : Bop) (a b : E)
  | neg (a : E)
  | cmp (o : Cop) (a b : E)
  | chain (o o' : Cop) (a b d : E)
  | and (es : EL)
  | or (es : EL)
  | not (a : E)
  | ite (t a b : E)
  | ix (a b : E)
  | sl (a : E) (lo hi : EO)
  | rev (a : E)
  | call (x : String) (sp : Sp3) (es : EL)
  | bi (b : Bi) (es : EL)
  | isi (a : E) (ts : List String)
  | lrg (a : E)
  | me (m : Me) (o : E) (es : EL)
  | lc (own : List (String × Nat)) (tn : Tn) (it : It3) (t : EO) (e : E)
  | lc2 (own : List (String × Nat)) (tn : Tn) (it : It3) (vs1 : List Nat) (tn1 : Tn) (it1 : It3) (e : E)
  | dc (own : List (String × Nat)) (tn : Tn) (it : It3) (t : EO) (k e : E)
  | dct (own : List (String × Nat)) (tn : Tn) (it : It3) (t : EO) (k e : E)
  | dic0
  | g (x : String) (v : GV)
inductive EO where
  | no
  | ex (e : E)
inductive EL where
  | nil
  | cons (e : E) (es : EL)
inductive It3 where
  | seq (a : E)
  | rng1 (a : E)
  | rng2 (a b : E)
  | rng3 (a b c : E)
  | enum (a : E)
  | zip (a b : E)
  | zip3 (a b c : E)
end
mutual
inductive S where
  | set (t : Tn) (e : E)
  | setSub (a i e : E)
  | par (i j : Nat) (a b : E)
  | swp (a i b j u v : E)
  | aug (i : Nat) (o : Bop) (e : E)
  | augSub (a i : E) (o : Bop) (e : E)
  | ex (e : E)
  | ret (e : E)
  | ret0
  | ite (t : E) (a b : SL)
  | whil (t : E) (b : SL)
  | for_ (tn : Tn) (it : It3) (b : SL)
  | brk
  | cont
  | pass
inductive SL where
  | nil
  | cons (s : S) (ss : SL)
end

abbrev TI3 := S3 → Mp → (List D → (Mp → Prop) → Mp → Prop) → Prop
/-! ### what a target asks -/
mutual
def wpG : Tn → D → Mp → S3 → (S3 → Prop) → Prop
  | .nm i, d, _, τ, Q => Q (τ.set i (some d))
  | .tup ts, d, M, τ, Q => match d with
    | .tup l => wpGs ts l M τ Q
    | .kt l => wpGs ts l M τ Q
    | .cl l => wpGs ts l M τ Q
    | .ref p => (match M p with
      | some (.lst l) => wpGs ts l M τ Q
      | _ => False)
    | _ => False
def wpGs : TnL → List D → Mp → S3 → (S3 → Prop) → Prop
  | .nil, l, _, τ, Q => l = [] ∧ Q τ
  | .cons t ts, l, M, τ, Q => match l with
    | d :: r => wpG t d M τ fun τ' => wpGs ts r M τ' Q
    | [] => False
end
def wipe3 (τ : S3) : List Nat → S3
  | [] => τ
  | v :: vs => (wipe3 τ vs).set v none
/-- less may be told of the heap -/
def wk (P : Mp → Prop) (M : Mp) : Prop := ∃ M0, Sub M0 M ∧ P M0
theorem wk.of {P : Mp → Prop} {M : Mp} (h : P M) : wk P M := ⟨M, .refl, h⟩
def lcW (ds : List D) (keep : Mp → Prop) (tn : Tn) (vs : List Nat) (tt : TT3) (te : TE3) (τ : S3) (M1 : Mp) (Q : K3) : Prop :=
  ∀ p, M1 p = none → ∃ I : Nat → List D → Mp → Prop, I 0 [] (put M1 p (.lst [])) ∧ ∀ i acc M, I i acc M → i ≤ ds.length → keep M ∧ M p = some (.lst acc) ∧
    (∀ d, ds[i]? = some d → wpG tn d M (wipe3 τ vs) fun τ2 => tt τ2 M fun b M3 =>
      if b = true then te τ2 M3 fun y M4 => acc.length < sizeLine ∧ M4 p = some (.lst acc) ∧ wk (I (i + 1) (acc ++ [y])) (put M4 p (.lst (acc ++ [y]))) else wk (I (i + 1) acc) M3) ∧
    (i = ds.length → wk (Q (.ref p)) M)
def putD (l : List (Key × D)) (k : Key) (x : D) : List (Key × D) := if (l.any fun kv => decide (kv.1 = k)) = true then l.map (fun kv => if kv.1 = k then (kv.1, x) else kv) else l ++ [(k, x)]
/-- {k: v for ..}: keys ints or texts -/
def dcW (ds : List D) (keep : Mp → Prop) (tn : Tn) (vs : List Nat) (tt : TT3) (tk tv : TE3) (τ : S3) (M1 : Mp) (Q : K3) : Prop :=
  ∀ p, M1 p = none → ∃ I : Nat → List (Key × D) → Mp → Prop, I 0 [] (put M1 p (.dic [])) ∧ ∀ i acc M, I i acc M → i ≤ ds.length → keep M ∧ M p = some (.dic acc) ∧
    (∀ d, ds[i]? = some d → wpG tn d M (wipe3 τ vs) fun τ2 => tt τ2 M fun b M3 =>
      if b = true then tk τ2 M3 fun y M4 => tv τ2 M4 fun z M5 => some3 (keyD y) fun k => acc.length < sizeLine ∧ M5 p = some (.dic acc) ∧ wk (I (i + 1) (putD acc k z)) (put M5 p (.dic (putD acc k z))) else wk (I (i + 1) acc) M3) ∧
    (i = ds.length → wk (Q (.ref p)) M)
def putT (l : List (List Key × D)) (k : List Key) (x : D) : List (List Key × D) := if (l.any fun kv => decide (kv.1 = k)) = true then l.map (fun kv => if kv.1 = k then (kv.1, x) else kv) else l ++ [(k, x)]
/-- {k: v for ..}: keys tuples -/
def dctW (ds : List D) (keep : Mp → Prop) (tn : Tn) (vs : List Nat) (tt : TT3) (tk tv : TE3) (τ : S3) (M1 : Mp) (Q : K3) : Prop :=
  ∀ p, M1 p = none → ∃ I : Nat → List (List Key × D) → Mp → Prop, I 0 [] (put M1 p (.dit [])) ∧ ∀ i acc M, I i acc M → i ≤ ds.length → keep M ∧ M p = some (.dit acc) ∧
    (∀ d, ds[i]? = some d → wpG tn d M (wipe3 τ vs) fun τ2 => tt τ2 M fun b M3 =>
      if b = true then tk τ2 M3 fun y M4 => tv τ2 M4 fun z M5 => some3 (keyT y) fun k => acc.length < sizeLine ∧ M5 p = some (.dit acc) ∧ wk (I (i + 1) (putT acc k z)) (put M5 p (.dit (putT acc k z))) else wk (I (i + 1) acc) M3) ∧
    (i = ds.length → wk (Q (.ref p)) M)
/-- [e for .. in .. for .. in ..] -/
def lc2W (ds : List D) (keep : Mp → Prop) (tn : Tn) (vs : List Nat) (ti1 : TI3) (tn1 : Tn) (vs1 : List Nat) (te : TE3) (τ : S3) (M1 : Mp) (Q : K3) : Prop :=
  ∀ p, M1 p = none → ∃ I : Nat → List D → Mp → Prop, I 0 [] (put M1 p (.lst [])) ∧ ∀ i acc M, I i acc M → i ≤ ds.length → keep M ∧
    (∀ d, ds[i]? = some d → wpG tn d M (wipe3 τ vs) fun τ2 => ti1 τ2 M fun ds1 keep1 M2 => ∃ I1 : Nat → List D → Mp → Prop, I1 0 acc M2 ∧ ∀ j acc M, I1 j acc M → j ≤ ds1.length → keep1 M ∧
      (∀ d1, ds1[j]? = some d1 → wpG tn1 d1 M (wipe3 τ2 vs1) fun τ3 => te τ3 M fun y M4 => acc.length < sizeLine ∧ M4 p = some (.lst acc) ∧ wk (I1 (j + 1) (acc ++ [y])) (put M4 p (.lst (acc ++ [y])))) ∧
      (j = ds1.length → wk (I (i + 1) acc) M)) ∧
    (i = ds.length → wk (Q (.ref p)) M)
/-- the ints of a range -/
def rgD (i c : Int) (n : Nat) : List D := (List.range n).map fun k => .int (i + (k : Nat) * c)
def seqI (d : D) (M : Mp) (R : List D → (Mp → Prop) → Mp → Prop) : Prop := match d with
  | .tup l => R l (fun _ => True) M
  | .cl l => R l (fun _ => True) M
  | .ref p => (match M p with
    | some (.lst l) => R l (fun M' => M' p = some (.lst l)) M
    | _ => False)
  | _ => False
def enumD (l : List D) : List D := l.mapIdx fun i d => .tup [.int (i : Nat), d]
def zipD (l m : List D) : List D := (l.zip m).map fun p => .tup [p.1, p.2]
def zipD3 (l m n : List D) : List D := (l.zip (m.zip n)).map fun p => .tup [p.1, p.2.1, p.2.2]
def isB3 (d : D) (M : Mp) (Q : Bool → Mp → Prop) : Prop := match d with
  | .bl k => Q k M
  | _ => False
def chain3 (tc : TE3) (r : R23) (e : D) (τ : S3) (z : D) (M : Mp) (Q : K3) : Prop := match z with
  | .bl true => tc τ M fun f M4 => r e f M4 Q
  | .bl false => Q (.bl false) M
  | _ => False
def chainT3 (tc : TE3) (r : R23) (e : D) (τ : S3) (z : D) (M : Mp) (Q : Bool → Mp → Prop) : Prop := match z with
  | .bl true => tc τ M fun f M4 => r e f M4 fun z M3 => isB3 z M3 Q
  | .bl false => Q false M
  | _ => False
def enum3 (d : D) (M : Mp) (R : List D → (Mp → Prop) → Mp → Prop) : Prop := seqI d M fun ds keep M2 => R (enumD ds) keep M2
/-- two lists or tuples -/
def zip3 (d e : D) (M : Mp) (R : List D → (Mp → Prop) → Mp → Prop) : Prop := match d, e with
  | .tup l, .tup m => R (zipD l m) (fun _ => True) M
  | d, e => seqI d M fun ds keep M3 => seqI e M3 fun es keep' M4 => R (zipD ds es) (fun M => keep M ∧ keep' M) M4
mutual
def wpE : E → TE3
  | .v i, τ, M, Q => some3 τ[i]? fun o => some3 o fun d => Q d M
  | .c d, τ, M, Q => Q d M
  | .tup es, τ, M, Q => wpEL es τ M fun ds M1 => Q (.tup ds) M1
  | .ktup es, τ, M, Q => wpEL es τ M fun ds M1 => Q (.kt ds) M1
  | .lst es, τ, M, Q => wpEL es τ M fun ds M1 => newL ds M1 Q
  | .bin o a b, τ, M, Q => wpE a τ M fun d M1 => wpE b τ M1 fun e M2 => bin3 o d e M2 Q
  | .neg a, τ, M, Q => wpE a τ M fun d M1 => neg3 d M1 Q
  | .cmp o a b, τ, M, Q => wpE a τ M fun d M1 => wpE b τ M1 fun e M2 => cmp3 o d e M2 Q
  | .chain o o' a b c, τ, M, Q => wpE a τ M fun d M1 => wpE b τ M1 fun e M2 => cmp3 o d e M2 fun z M3 => chain3 (wpE c) (cmp3 o') e τ z M3 Q
  | .and es, τ, M, Q => wpAnd es τ M Q
  | .or es, τ, M, Q => wpOr es τ M Q
  | .not a, τ, M, Q => wpE a τ M fun d M1 => tru3 d M1 fun k M2 => Q (.bl (!k)) M2
  | .ite t a b, τ, M, Q => wpT t τ M fun k M1 => if k = true then wpE a τ M1 Q else wpE b τ M1 Q
  | .ix a b, τ, M, Q => wpE a τ M fun d M1 => wpE b τ M1 fun e M2 => ix3 d e M2 Q
  | .sl a lo hi, τ, M, Q => wpE a τ M fun d M1 => wpO lo τ M1 fun l M2 => wpO hi τ M2 fun h M3 => sl3 d l h M3 Q
  | .rev a, τ, M, Q => wpE a τ M fun d M1 => rev3 d M1 Q
  | .call _ sp es, τ, M, Q => wpEL es τ M fun ds M1 => sp ds M1 Q
  | .bi b es, τ, M, Q => wpEL es τ M fun ds M1 => bi3 b ds M1 Q
  | .isi a ts, τ, M, Q => wpE a τ M fun d M1 => some3 (tyName d M1) fun t => Q (.bl (ts.any fun T => isTy t T)) M1
  | .lrg a, τ, M, Q => wpE a τ M fun d M1 => isI d fun i => i ≤ 16777216 ∧ -16777216 ≤ i ∧ newL (rgD 0 1 i.toNat) M1 Q
  | .me m o es, τ, M, Q => wpE o τ M fun d M1 => isTyM m.ty d M1 ∧ wpEL es τ M1 fun ds M2 => me3 m d ds M2 Q
  | .lc own tn it t e, τ, M, Q => wpI it τ M fun ds keep M1 => lcW ds keep tn (own.map (·.2)) (wpTO t) (wpE e) τ M1 Q
  | .lc2 own tn it vs1 tn1 it1 e, τ, M, Q => wpI it τ M fun ds keep M1 => lc2W ds keep tn (own.map (·.2)) (wpI it1) tn1 vs1 (wpE e) τ M1 Q
  | .dc own tn it t k e, τ, M, Q => wpI it τ M fun ds keep M1 => dcW ds keep tn (own.map (·.2)) (wpTO t) (wpE k) (wpE e) τ M1 Q
  | .dct own tn it t k e, τ, M, Q => wpI it τ M fun ds keep M1 => dctW ds keep tn (own.map (·.2)) (wpTO t) (wpE k) (wpE e) τ M1 Q
  | .dic0, τ, M, Q => ∀ p, M p = none → Q (.ref p) (put M p (.dic []))
  | .g _ v, τ, M, Q => Q v.d M
def wpEL : EL → TA3
  | .nil, τ, M, Q => Q [] M
  | .cons e es, τ, M, Q => wpE e τ M fun d M1 => wpEL es τ M1 fun ds M2 => Q (d :: ds) M2
/-- a part of a slice -/
def wpO : EO → S3 → Mp → (Option Int → Mp → Prop) → Prop
  | .no, τ, M, Q => Q none M
  | .ex e, τ, M, Q => wpE e τ M fun d M1 => isI d fun i => Q (some i) M1
/-- a comprehension's test -/
def wpTO : EO → TT3
  | .no, τ, M, Q => Q true M
  | .ex e, τ, M, Q => wpT e τ M Q
def wpAnd : EL → TE3
  | .nil, τ, M, Q => False
  | .cons e es, τ, M, Q => match es with
    | .nil => wpE e τ M Q
    | .cons _ _ => wpE e τ M fun d M1 => tru3 d M1 fun k M2 => if k = true then wpAnd es τ M2 Q else Q d M2
def wpOr : EL → TE3
  | .nil, τ, M, Q => False
  | .cons e es, τ, M, Q => match es with
    | .nil => wpE e τ M Q
    | .cons _ _ => wpE e τ M fun d M1 => tru3 d M1 fun k M2 => if k = true then Q d M2 else wpOr es τ M2 Q
def wpT : E → TT3
  | .not a, τ, M, Q => wpT a τ M fun k M1 => Q (!k) M1
  | .and es, τ, M, Q => wpAndT es τ M Q
  | .or es, τ, M, Q => wpOrT es τ M Q
  | .ite t a b, τ, M, Q => wpT t τ M fun k M1 => if k = true then wpT a τ M1 Q else wpT b τ M1 Q
  | .cmp o a b, τ, M, Q => wpE a τ M fun d M1 => wpE b τ M1 fun e M2 => cmp3 o d e M2 fun z M3 => isB3 z M3 Q
  | .chain o o' a b c, τ, M, Q => wpE a τ M fun d M1 => wpE b τ M1 fun e M2 => cmp3 o d e M2 fun z M3 => chainT3 (wpE c) (cmp3 o') e τ z M3 Q
  | .v i, τ, M, Q => some3 τ[i]? fun o => some3 o fun d => tru3 d M Q
  | .c d, τ, M, Q => tru3 d M Q
  | .tup es, τ, M, Q => wpEL es τ M fun ds M1 => tru3 (.tup ds) M1 Q
  | .lst es, τ, M, Q => wpEL es τ M fun ds M1 => newL ds M1 fun d M2 => tru3 d M2 Q
  | .bin o a b, τ, M, Q => wpE a τ M fun d M1 => wpE b τ M1 fun e M2 => bin3 o d e M2 fun d M2 => tru3 d M2 Q
  | .ix a b, τ, M, Q => wpE a τ M fun d M1 => wpE b τ M1 fun e M2 => ix3 d e M2 fun d M2 => tru3 d M2 Q
  | .call _ sp es, τ, M, Q => wpEL es τ M fun ds M1 => sp ds M1 fun d M2 => tru3 d M2 Q
  | .bi b es, τ, M, Q => wpEL es τ M fun ds M1 => bi3 b ds M1 fun d M2 => tru3 d M2 Q
  | .isi a ts, τ, M, Q => wpE a τ M fun d M1 => some3 (tyName d M1) fun t => Q (ts.any fun T => isTy t T) M1
  | _, _, _, _ => False
def wpAndT : EL → TT3
  | .nil, τ, M, Q => Q true M
  | .cons e es, τ, M, Q => wpT e τ M fun k M1 => if k = true then wpAndT es τ M1 Q else Q false M1
def wpOrT : EL → TT3
  | .nil, τ, M, Q => Q false M
  | .cons e es, τ, M, Q => wpT e τ M fun k M1 => if k = true then Q true M1 else wpOrT es τ M1 Q
def wpI : It3 → TI3
  | .seq a, τ, M, R => wpE a τ M fun d M1 => seqI d M1 R
  | .rng1 a, τ, M, R => wpE a τ M fun d M1 => isI d fun j => -(2 ^ 62) ≤ j ∧ j < 2 ^ 62 ∧ R (rgD 0 1 j.toNat) (fun _ => True) M1
  | .rng2 a b, τ, M, R => wpE a τ M fun d M1 => wpE b τ M1 fun e M2 => isI d fun i => isI e fun j => (-(2 ^ 62) ≤ i ∧ i < 2 ^ 62 ∧ -(2 ^ 62) ≤ j ∧ j < 2 ^ 62) ∧ R (rgD i 1 (j - i).toNat) (fun _ => True) M2
  | .rng3 a b c, τ, M, R => wpE a τ M fun d M1 => wpE b τ M1 fun e M2 => wpE c τ M2 fun f M3 => isI d fun i => isI e fun j => isI f fun k => ∃ n, RgC i j k n ∧ R (rgD i k n) (fun _ => True) M3
  | .enum a, τ, M, R => wpE a τ M fun d M1 => enum3 d M1 R
  | .zip a b, τ, M, R => wpE a τ M fun d M1 => wpE b τ M1 fun e M2 => zip3 d e M2 R
  | .zip3 a b c, τ, M, R => wpE a τ M fun d M1 => wpE b τ M1 fun e M2 => wpE c τ M2 fun f M3 => seqI d M3 fun ds k M4 => seqI e M4 fun es k' M5 => seqI f M5 fun fs k'' M6 => R (zipD3 ds es fs) (fun M => k M ∧ k' M ∧ k'' M) M6
end
/-- the bounds of a product in place -/
def MulOk' (i j : Int) : Prop := (-(2 ^ 64) < i ∧ i < 2 ^ 64) ∨ (-(2 ^ 64) < j ∧ j < 2 ^ 64)
structure Ends3 where
  nx : S3 → Mp → Prop
  rt : K3
  bk : S3 → Mp → Prop := fun _ _ => False
  ct : S3 → Mp → Prop := fun _ _ => False
abbrev TS3 := Ends3 → S3 → Mp → Prop
def set3 (d e x : D) (M : Mp) (Q : Mp → Prop) : Prop := match d with
  | .ref p => (match M p with
    | some (.lst l) => isI e fun i => some3 (ixN l.length i) fun k => Q (put M p (.lst (l.set k x)))
    | some (.dic l) => some3 (keyD e) fun k => l.length < sizeLine ∧ Q (put M p (.dic (putD l k x)))
    | some (.dit l) => some3 (keyT e) fun k => l.length < sizeLine ∧ Q (put M p (.dit (putT l k x)))
    | none => False)
  | _ => False
def forW (ds : List D) (keep : Mp → Prop) (tn : Tn) (body : TS3) (D : Ends3) (τ : S3) (M1 : Mp) : Prop :=
  ∃ I : Nat → S3 → Mp → Prop, I 0 τ M1 ∧ ∀ i τ M, I i τ M → i ≤ ds.length → keep M ∧
    (∀ d, ds[i]? = some d → wpG tn d M τ fun τ2 => body { D with nx := fun τ M => wk (I (i + 1) τ) M, ct := fun τ M => wk (I (i + 1) τ) M, bk := D.nx } τ2 M) ∧
    (i = ds.length → wk (D.nx τ) M)
def whileW (t : TT3) (body : TS3) (D : Ends3) (τ : S3) (M1 : Mp) : Prop :=
  ∃ I : Nat → S3 → Mp → Prop, (∃ n, I n τ M1) ∧ ∀ n τ M, I n τ M → t τ M fun k M1 =>
    if k = true then body { D with nx := fun τ M => ∃ m, m < n ∧ wk (I m τ) M, ct := fun τ M => ∃ m, m < n ∧ wk (I m τ) M, bk := D.nx } τ M1 else wk (D.nx τ) M1
/-- what is read and stored again -/
def getR3 (d e : D) (M : Mp) (Q : K3) : Prop := match d with
  | .ref _ => ix3 d e M Q
  | _ => False
/-- x op= e: a list grows in its place -/
def aug3 : Bop → R23
  | .add, .ref p, .ref q, M, Q => (match getL M p, getL M q with
    | some a, some b => a.length + b.length ≤ sizeLine ∧ Q (.ref p) (put M p (.lst (a ++ b)))
    | _, _ => False)
  | .add, .int i, .int j, M, Q => Q (.int (i + j)) M
  | .add, .str x, .str y, M, Q => x.length + y.length ≤ sizeLine ∧ Q (.str (x ++ y)) M
  | .sub, .int i, .int j, M, Q => Q (.int (i - j)) M
  | .mul, .int i, .int j, M, Q => MulOk' i j ∧ Q (.int (i * j)) M
  | .fdiv, .int i, .int j, M, Q => (0 < j ∧ j < 1073741824) ∧ Q (.int (i / j)) M
  | .mod, .int i, .int j, M, Q => 0 < j ∧ Q (.int (i % j)) M
  | _, _, _, _, _ => False
mutual
def wpS : S → TS3
  | .set t e, D, τ, M => wpE e τ M fun d M1 => wpG t d M1 τ fun τ' => D.nx τ' M1
  | .setSub a i e, D, τ, M => wpE e τ M fun x M1 => wpE a τ M1 fun d M2 => wpE i τ M2 fun y M3 => set3 d y x M3 fun M4 => D.nx τ M4
  | .par i j a b, D, τ, M => wpE a τ M fun d M1 => wpE b τ M1 fun e M2 => D.nx ((τ.set i (some d)).set j (some e)) M2
  | .swp a i b j u v, D, τ, M => wpE u τ M fun d M1 => wpE v τ M1 fun e M2 => wpE a τ M2 fun p M3 => wpE i τ M3 fun x M4 => set3 p x d M4 fun M5 => wpE b τ M5 fun q M6 => wpE j τ M6 fun y M7 => set3 q y e M7 fun M8 => D.nx τ M8
  | .aug i o e, D, τ, M => some3 τ[i]? fun o' => some3 o' fun x => wpE e τ M fun y M1 => aug3 o x y M1 fun z M2 => D.nx (τ.set i (some z)) M2
  | .augSub a i o e, D, τ, M => wpE a τ M fun d M1 => wpE i τ M1 fun k M2 => getR3 d k M2 fun x M3 => wpE e τ M3 fun y M4 => aug3 o x y M4 fun z M5 => set3 d k z M5 fun M6 => D.nx τ M6
  | .ex e, D, τ, M => wpE e τ M fun _ M1 => D.nx τ M1
  | .ret e, D, τ, M => wpE e τ M D.rt
  | .ret0, D, τ, M => D.rt .non M
  | .ite t a b, D, τ, M => wpT t τ M fun k M1 => if k = true then wpSs a D τ M1 else wpSs b D τ M1
  | .whil t b, D, τ, M => whileW (wpT t) (wpSs b) D τ M
  | .for_ tn it b, D, τ, M => wpI it τ M fun ds keep M1 => forW ds keep tn (wpSs b) D τ M1
  | .brk, D, τ, M => D.bk τ M
  | .cont, D, τ, M => D.ct τ M
  | .pass, D, τ, M => D.nx τ M
def wpSs : SL → TS3
  | .nil, D, τ, M => D.nx τ M
  | .cons s ss, D, τ, M => wpS s { D with nx := wpSs ss D } τ M
end
end G3
set_option Elab.async false
set_option linter.all false
set_option maxRecDepth 100000
set_option maxHeartbeats 4000000
/-! t[::-1] of a tuple -/
namespace HT
open PySem PySem.Spec PyProof.Rows
theorem adjust_rev (n : Nat) : Builtin.Slice.sliceAdjust none none (-1) (n : Int) = ((n : Int) - 1, -1) := by
  unfold Builtin.Slice.sliceAdjust
  rfl
theorem places_rev (n : Nat) : Builtin.Slice.slicePlaces ((n : Int) - 1) (-1) (-1) = n := by
  unfold Builtin.Slice.slicePlaces
  rw [if_neg (by decide)]
  by_cases h : (n : Int) - 1 > -1
  · rw [if_pos h, show (- -1 : Int) = 1 by decide, Int.ediv_one]; omega
  · rw [if_neg h]; omega
theorem fm_congr {α β : Type} {f g : α → Option β} : ∀ l : List α, (∀ a ∈ l, f a = g a) → l.filterMap f = l.filterMap g
  | [], _ => rfl
  | a :: l, h => by
    rw [List.filterMap_cons, List.filterMap_cons, h a (by simp), fm_congr l fun b hb => h b (List.mem_cons_of_mem _ hb)]
theorem pick_rev (xs : Array Value) : ((List.range xs.size).filterMap fun (m : Nat) => xs[(((xs.size : Int) - 1) + (m : Int) * (-1)).toNat]?).toArray = xs.toList.reverse.toArray := by
  have e : ((List.range xs.size).filterMap fun (m : Nat) => xs[(((xs.size : Int) - 1) + (m : Int) * (-1)).toNat]?) = ((List.range xs.size).map fun k => xs.size - 1 - k).filterMap (xs[·]?) := by
    rw [List.filterMap_map]
    refine fm_congr _ fun m hm => ?_
    have := List.mem_range.mp hm
    show xs[_]? = xs[_]?
    congr 1
    show _ = xs.size - 1 - m
    omega
  rw [e, PySem.W.krv_range, List.filterMap_reverse, PySem.W.krv_all]
section
variable {prog : Program} {w : World} {A : Around} {E : Value → Shared → Prop} {s : Shared}
theorem sliceApplied_rev {sl : Addr} {vl vu vk : Value} {n : Nat} {Q : Int × Int × Nat → Shared → Prop} (hs : s.heap.IsSliceOf sl vl vu vk) (pl : IsPart vl none) (pu : IsPart vu none) (pk : IsPart vk (some (-1)))
    (h : Q ((n : Int) - 1, -1, n) s) : wpAny (model prog w) A (Builtin.Slice.sliceApplied (.ref sl) (pure (n : Int))) Q E s := by
  obtain ⟨os, hos, hcs, hds⟩ := id hs
  unfold Builtin.Slice.sliceApplied Builtin.Slice.sliceFields
  refine wpAny_bind (wpAny_bind (wpAny_field hos hds (x := vl) rfl (wpAny_bind (wpAny_field hos hds (x := vu) rfl (wpAny_bind (wpAny_field hos hds (x := vk) rfl (wpAny_pure ?_)))))))
  refine wpAny_bind (slicePart_ pk ?_)
  show wpAny _ _ (if ((-1 : Int) == 0) = true then _ else _) _ _ s
  rw [if_neg (by decide)]
  refine wpAny_bind (slicePart_ pl (wpAny_bind (slicePart_ pu (wpAny_bind (wpAny_pure ?_)))))
  show wpAny _ _ (match Builtin.Slice.sliceAdjust none none (-1) (n : Int) with | (lo, hi) => pure (lo, (-1 : Int), Builtin.Slice.slicePlaces lo hi (-1))) _ _ s
  rw [adjust_rev n]
  show wpAny _ _ (pure ((n : Int) - 1, (-1 : Int), Builtin.Slice.slicePlaces ((n : Int) - 1) (-1) (-1))) _ _ s
  rw [places_rev]
  exact wpAny_pure h
theorem getItem_tuple_rev {t sl : Addr} {items : Array Value} {vl vu vk : Value} {Q : Value → Shared → Prop} (ht : IsTup s.heap t items) (hs : s.heap.IsSliceOf sl vl vu vk) (pl : IsPart vl none) (pu : IsPart vu none) (pk : IsPart vk (some (-1)))
    (h : Q (.ref s.heap.objs.size) { s with heap := s.heap.push { cls := .type "tuple", data := .seq items.toList.reverse.toArray } })
    (hsz : items.size ≤ sizeLine) : wpAny (model prog w) A (getItem (.ref t) (.ref sl)) Q E s := by
  have htake : sizeOk (.seq items.toList.reverse.toArray) := by
    show items.toList.reverse.toArray.size ≤ sizeLine
    rw [List.size_toArray, List.length_reverse, Array.length_toList]
    omega
  obtain ⟨os, hos, hcs, hds⟩ := id hs
  have hTs : s.TypeIs (.ref sl) "slice" := ⟨os, hos, hcs⟩
  unfold getItem
  try with_reducible refine wpAny_holding ?_
  first | refine wpAny_bind (wpAny_pure ?_) | skip
  refine wpAny_bind (wpAny_sequenceKey ht.typeIs (by decide) ?_)
  refine wpAny_bind (wpAny_callSpecial?_slot (name := Str.ofString "__getitem__") ht.typeIs PyProof.Rows.slot_tuple_getitem
    (wpAny_call_entry PyProof.Rows.slot_tuple_getitem ht.typeIs entry_tuple_getitem ?_ (args_tuple_getitem _ _)))
  show wpAny _ _ (Builtin.Tuple.tupleItemsOf (.ref t) >>= _) _ _ s
  refine wpAny_bind (tupleItemsOf_ ht ?_)
  refine wpAny_bind (wpAny_typeOf hTs ?_)
  rw [if_pos (by decide)]
  refine wpAny_bind (sliceApplied_rev hs pl pu pk ?_)
  have hno : ¬ ((((items.size : Int) - 1) == 0 && (-1 : Int) == 1 && items.size == items.size) = true) := by
    intro q
    rw [Bool.and_eq_true, Bool.and_eq_true] at q
    have q1 : (-1 : Int) = 1 := eq_of_beq q.1.2
    omega
  show wpAny _ _ (if (((items.size : Int) - 1) == 0 && (-1 : Int) == 1 && items.size == items.size) = true then _ else _) _ _ s
  rw [if_neg hno, pick_rev]
  first
    | exact wpAny_bind (m := Builtin.Tuple.tupleExact _) (wpAny_newObj_type (wpAny_pure ⟨_, rfl, wpAny_pure h⟩) htake)
    | exact wpAny_bind (m := Builtin.Tuple.tupleExact _) (wpAny_newObj_type (wpAny_bind (wpAny_pure (wpAny_pure ⟨_, rfl, wpAny_pure h⟩))) htake)
    | exact wpAny_bind (wpAny_bind (m := Builtin.Tuple.tupleExact _) (wpAny_newObj_type (wpAny_pure (wpAny_pure ⟨_, rfl, wpAny_pure h⟩)) htake))
    | exact wpAny_bind (wpAny_bind (m := Builtin.Tuple.tupleExact _) (wpAny_newObj_type (wpAny_pure ⟨_, rfl, wpAny_pure h⟩) htake))
end
end HT
namespace L2
open PySem PySem.Spec PyProof.Rows
section
variable {X : Cx}
/-- x[::-1], x a list or a tuple -/
def tRevA (K : PySem.W.Frag) (te : TE) : TE := fun σ H Q => te σ H fun x H1 => ∃ a xs, x = .ref a ∧ ((SqL K H1 a xs ∧ ∀ p, H1 p = none → Q (.ref p) (upd H1 p (.lst xs.reverse))) ∨ (SqT K H1 a xs ∧ ∀ p, H1 p = none → Q (.ref p) (upd H1 p (.tup xs.reverse))))
theorem pe_revA {e : Expr} {te : TE} {k : Nat} {p1 p2 p3 pos : Pos} (he : PE X e te) : PE X (.Subscript e (.Slice none none (some (.UnaryOp .USub (.Constant (.int 1) k p1) p2)) p3) pos) (tRevA X.K te) := by
  refine ⟨fun pins s σ H Q I h => ?_⟩
  refine Subscript_ (thn (he.run pins s σ H _ I h) fun v s1 ⟨x, H1, I1, r1, q1⟩ => ?_)
  obtain ⟨a, xs, ex, q⟩ := q1
  subst ex
  cases r1
  have hst : PO X (some (.UnaryOp .USub (.Constant (.int 1) k p1) p2)) (tPart (tUn (rU fun i => .int (-i)) (tC (.int 1)))) := po_some (pe_un un_neg pe_int)
  refine wpAny_Slice (thn (po_none.run pins s1 σ H1 (fun o H2 => o = none ∧ H2 = H1) I1 ⟨rfl, rfl⟩) fun vl s2 ⟨l, H2, I2, pl, el, e2⟩ => ?_)
  subst el e2
  refine thn (po_none.run pins s2 σ H2 (fun o H3 => o = none ∧ H3 = H2) I2 ⟨rfl, rfl⟩) fun vu s3 ⟨u, H3, I3, pu, eu, e3⟩ => ?_
  subst eu e3
  refine thn (hst.run pins s3 σ H3 (fun o H4 => o = some (-1) ∧ H4 = H3) I3 ⟨1, rfl, -1, rfl, rfl, rfl⟩) fun vs s4 ⟨o, H4, I4, ps, eo, e4⟩ => ?_
  subst eo e4
  have I5 : Inv X pins σ H4 { s4 with heap := s4.heap.push { cls := .type "slice", data := .fields #[vl, vu, vs] } } := I4.kept (t' := s4.toks) fun b ob q => Heap.get?_push_of_some _ q
  rcases q with ⟨hx, q⟩ | ⟨hx, q⟩
  · obtain ⟨its, r, ht, hz⟩ := I5.list hx
    have hlen := r.length
    show wpAny (model X.prog X.w) X.A (subscriptTail e (.Slice none none (some (.UnaryOp .USub (.Constant (.int 1) k p1) p2)) p3) (.ref a) (.ref s4.heap.objs.size)) (EP X pins σ Q) X.xe { s4 with heap := s4.heap.push { cls := .type "slice", data := .fields #[vl, vu, vs] } }
    refine tail_any (ops := [.ref a, .ref s4.heap.objs.size]) ht.isList.typeIs (PySem.slot_list_getitem.lookup) ?_ (by with_unfolding_all rfl)
    refine wpAny_getItem_list_slice ht.isList (Heap.IsSliceOf.new _ vl vu vs) pl pu ps (by decide) ?_ (by rw [List.size_toArray]; omega)
    rw [PySem.W.krv_pick]
    refine ⟨.ref _, _, I5.laid (t' := s4.toks) (o := .lst xs.reverse) (fun b ob q => Heap.get?_push_of_some _ q) (Nat.le_refl _) ?_, rfl, q _ (I5.hok.fresh (Nat.le_refl _))⟩
    exact ⟨by rw [List.length_reverse]; exact hz, _, 0, r.reverse, Heap.get?_push_size _ rfl⟩
  · obtain ⟨its, r, ht, hz⟩ := I5.tuple hx
    have hlen : its.toArray.size = xs.length := by rw [List.size_toArray]; exact r.length.symm
    show wpAny (model X.prog X.w) X.A (subscriptTail e (.Slice none none (some (.UnaryOp .USub (.Constant (.int 1) k p1) p2)) p3) (.ref a) (.ref s4.heap.objs.size)) (EP X pins σ Q) X.xe { s4 with heap := s4.heap.push { cls := .type "slice", data := .fields #[vl, vu, vs] } }
    refine tail_any (ops := [.ref a, .ref s4.heap.objs.size]) ht.typeIs (PyProof.Rows.slot_tuple_getitem.lookup) ?_ (by with_unfolding_all rfl)
    refine HT.getItem_tuple_rev ht (Heap.IsSliceOf.new _ vl vu vs) pl pu ps ?_ (by rw [hlen]; exact hz)
    refine ⟨.ref _, _, I5.laid (t' := s4.toks) (o := .tup xs.reverse) (fun b ob q => Heap.get?_push_of_some _ q) (Nat.le_refl _) ?_, rfl, q _ (I5.hok.fresh (Nat.le_refl _))⟩
    exact ⟨by rw [List.length_reverse]; exact hz, _, r.reverse, IsTup.new _ _⟩
end
end L2
set_option Elab.async false
set_option linter.all false
set_option maxRecDepth 100000
set_option maxHeartbeats 4000000
/-! the readings lifted to values by content -/
namespace G3
open PySem PySem.Spec PyProof.Rows L2

section
variable (K : PySem.W.Frag)
def lift (t : TE3) : TE := fun σ H Q => ∃ τ M Q3, HR K M H ∧ Slots K H σ τ ∧ t τ M Q3 ∧ Lnk K H Q3 Q
def liftT (t : TT3) : TT := fun σ H Q => ∃ τ M Q3, HR K M H ∧ Slots K H σ τ ∧ t τ M Q3 ∧ ∀ b H' M', Q3 b M' → Grow K H H' → HR K M' H' → Q b H'
def liftA (n : Nat) (t : TA3) : TA := fun σ H Q => ∃ τ M Q3, HR K M H ∧ Slots K H σ τ ∧ t τ M Q3 ∧ ∀ vs H' ds M', Q3 ds M' → Grow K H H' → HR K M' H' → Reps K H' vs ds → ds.length = n → Q vs H'
structure EL' (H : Hp) (D3 : Ends3) (D : Ends) : Prop where
  nx : ∀ σ' H' τ' M', D3.nx τ' M' → Grow K H H' → HR K M' H' → Slots K H' σ' τ' → D.nx σ' H'
  rt : Lnk K H D3.rt D.rt
  bk : ∀ σ' H' τ' M', D3.bk τ' M' → Grow K H H' → HR K M' H' → Slots K H' σ' τ' → D.bk σ' H'
  ct : ∀ σ' H' τ' M', D3.ct τ' M' → Grow K H H' → HR K M' H' → Slots K H' σ' τ' → D.ct σ' H'
def liftS (t : TS3) : TS := fun D σ H => ∃ τ M D3, HR K M H ∧ Slots K H σ τ ∧ t D3 τ M ∧ EL' K H D3 D
/-- what is walked: J yields ds as long as keep stands -/
def ItOk (H0 : Hp) (J : It) (ds : List D) (keep : Mp → Prop) : Prop :=
  (∀ i H M d, Grow K H0 H → HR K M H → keep M → ds[i]? = some d → J.go i H ∧ ∀ x H', J.yld i H x H' → Grow K H H' ∧ HR K M H' ∧ Rep K H' x d) ∧
  (∀ i H M, Grow K H0 H → HR K M H → keep M → i = ds.length → J.stop i H)
def liftI (t : TI3) : TI := fun σ H R => ∃ τ M R3, HR K M H ∧ Slots K H σ τ ∧ t τ M R3 ∧ ∀ J ds keep H' M', R3 ds keep M' → Grow K H H' → HR K M' H' → ItOk K H' J ds keep → R J H'
end
section
variable {K : PySem.W.Frag}
theorem EL'.from {H H1 : Hp} {D3 : Ends3} {D : Ends} (e : EL' K H D3 D) (g : Grow K H H1) : EL' K H1 D3 D :=
  ⟨fun a b c d q g' => e.nx a b c d q (g.trans g'), e.rt.from g, fun a b c d q g' => e.bk a b c d q (g.trans g'), fun a b c d q g' => e.ct a b c d q (g.trans g')⟩
end
section
variable {X : Cx}
theorem PEw {e : Expr} {t t' : TE} (h : PE X e t') (w : ∀ σ H Q, t σ H Q → t' σ H Q) : PE X e t := ⟨fun pins s σ H Q I q => h.run pins s σ H Q I (w σ H Q q)⟩
theorem PTw {e : Expr} {t t' : TT} (h : PT X e t') (w : ∀ σ H Q, t σ H Q → t' σ H Q) : PT X e t := ⟨fun pins s σ H Q I q => h.run pins s σ H Q I (w σ H Q q)⟩
theorem PWw {e : Expr} {t t' : TT} (h : PW X e t') (w : ∀ σ H Q, t σ H Q → t' σ H Q) : PW X e t := ⟨fun wh pins s σ H Q I q => h.run wh pins s σ H Q I (w σ H Q q)⟩
theorem PAw {e : List Expr} {t t' : TA} (h : PA X e t') (w : ∀ σ H Q, t σ H Q → t' σ H Q) : PA X e t := ⟨fun p pins s σ H Q I q => h.run p pins s σ H Q I (w σ H Q q)⟩
theorem PSw {e : Stmt} {t t' : TS} (h : PS X e t') (w : ∀ D σ H, t D σ H → t' D σ H) : PS X e t := ⟨fun pins s σ H D I q => h.run pins s σ H D I (w D σ H q)⟩
theorem PSsw {e : List Stmt} {t t' : TS} (h : PSs X e t') (w : ∀ D σ H, t D σ H → t' D σ H) : PSs X e t := ⟨fun pins s σ H D I q => h.run pins s σ H D I (w D σ H q)⟩
theorem PIw {tg e : Expr} {t t' : TI} (h : PI X tg e t') (w : ∀ σ H R, t σ H R → t' σ H R) : PI X tg e t := ⟨fun pins s σ H R I q => h.run pins s σ H R I (w σ H R q)⟩
variable {a b c e : Expr} {ta tb tc te : TE3} {pos : Pos}
/-- one value, then a rule of it -/
theorem lift_then {σ : L2.St} {H : Hp} {Q : VK} {r : D → Mp → K3 → Prop} {R : V → Hp → VK → Prop} (h : lift X.K (fun τ M Q => ta τ M fun d M1 => r d M1 Q) σ H Q)
    (hr : ∀ v H1, lift1 X.K r v H1 Q → R v H1 Q) : lift X.K ta σ H fun v H1 => R v H1 Q := by
  obtain ⟨τ, M, Q3, hr', sl, h, L⟩ := h
  exact ⟨τ, M, _, hr', sl, h, fun v H1 d M1 h1 g1 hr1 r1 => hr v H1 ⟨d, M1, Q3, hr1, r1, h1, L.from g1⟩⟩
/-- two values, then a rule of both -/
theorem lift_then2 {σ : L2.St} {H : Hp} {Q : VK} {r : R23} {R : R2} (h : lift X.K (fun τ M Q => ta τ M fun d M1 => tb τ M1 fun e M2 => r d e M2 Q) σ H Q)
    (hr : ∀ v w H1, lift2 X.K r v w H1 Q → R v w H1 Q) : lift X.K ta σ H fun v H1 => lift X.K tb σ H1 fun w H2 => R v w H2 Q := by
  obtain ⟨τ, M, Q3, hr', sl, h, L⟩ := h
  exact ⟨τ, M, _, hr', sl, h, fun v H1 d M1 h1 g1 hr1 r1 => ⟨τ, M1, _, hr1, sl.mono g1, h1, fun w H2 e M2 h2 g2 hr2 r2 => hr v w H2 ⟨d, e, M2, Q3, hr2, Rep.mono g2 d r1, r2, h2, L.from (g1.trans g2)⟩⟩⟩
theorem le_bin {op : Operator} {r : R23} (ho : OpR X (binaryOp op) (lift2 X.K r)) (ha : PE X a (lift X.K ta)) (hb : PE X b (lift X.K tb)) :
    PE X (.BinOp a op b pos) (lift X.K fun τ M Q => ta τ M fun d M1 => tb τ M1 fun e M2 => r d e M2 Q) :=
  PEw (pe_op ho ha hb) fun σ H Q h => lift_then2 h fun v w H1 q => q
theorem le_un {op : UnaryOp} {r : D → Mp → K3 → Prop} (ho : UnR X (unaryOp op) (lift1 X.K r)) (ha : PE X a (lift X.K ta)) :
    PE X (.UnaryOp op a pos) (lift X.K fun τ M Q => ta τ M fun d M1 => r d M1 Q) :=
  PEw (pe_un ho ha) fun σ H Q h => lift_then h fun v H1 q => q
theorem le_cmp {op : CmpOp} {r : R23} (ho : OpR X (compareOp op) (lift2 X.K r)) (ha : PE X a (lift X.K ta)) (hb : PE X b (lift X.K tb)) (hm : behindInMarks op b = false) :
    PE X (.Compare a [op] [b] pos) (lift X.K fun τ M Q => ta τ M fun d M1 => tb τ M1 fun e M2 => r d e M2 Q) :=
  PEw (pe_cmpR ho ha hb hm) fun σ H Q h => lift_then2 h fun v w H1 q => q
theorem isB_ok {H H0 : Hp} {M : Mp} {d : D} {v : V} {Q3 : Bool → Mp → Prop} {Q : Bool → Hp → Prop} (h : isB3 d M Q3) (r : Rep X.K H v d) (hr : HR X.K M H) (g : Grow X.K H0 H)
    (L : ∀ b H' M', Q3 b M' → Grow X.K H0 H' → HR X.K M' H' → Q b H') : ∃ k, v = .bl k ∧ Q k H := by
  unfold isB3 at h
  cases r <;> try exact h.elim
  exact ⟨_, rfl, L _ _ _ h g hr⟩
theorem lt_cmp {op : CmpOp} {r : R23} (ho : OpR X (compareOp op) (lift2 X.K r)) (ha : PE X a (lift X.K ta)) (hb : PE X b (lift X.K tb)) (hm : behindInMarks op b = false) :
    PT X (.Compare a [op] [b] pos) (liftT X.K fun τ M Q => ta τ M fun d M1 => tb τ M1 fun e M2 => r d e M2 fun z M3 => isB3 z M3 Q) :=
  PTw (pt_cmpR ho ha hb hm) fun σ H Q h => by
    obtain ⟨τ, M, Q3, hr, sl, h, L⟩ := h
    exact ⟨τ, M, _, hr, sl, h, fun v H1 d M1 h1 g1 hr1 r1 => ⟨τ, M1, _, hr1, sl.mono g1, h1, fun w H2 e M2 h2 g2 hr2 r2 => ⟨d, e, M2, _, hr2, Rep.mono g2 d r1, r2, h2, fun z H3 f M3 h3 g3 hr3 r3 =>
      isB_ok h3 r3 hr3 ((g1.trans g2).trans g3) L⟩⟩⟩
theorem le_chain {op op' : CmpOp} {r r' : R23} (ho : OpR X (compareOp op) (lift2 X.K r)) (ho' : OpR X (compareOp op') (lift2 X.K r')) (ha : PE X a (lift X.K ta)) (hb : PE X b (lift X.K tb)) (hc : PE X c (lift X.K tc))
    (hm : lastMarks [op, op'] [b, c] = false) :
    PE X (.Compare a [op, op'] [b, c] pos) (lift X.K fun τ M Q => ta τ M fun d M1 => tb τ M1 fun e M2 => r d e M2 fun z M3 => chain3 tc r' e τ z M3 Q) :=
  PEw (pe_chain ho ho' ha hb hc hm) fun σ H Q h => by
    obtain ⟨τ, M, Q3, hr, sl, h, L⟩ := h
    refine ⟨τ, M, _, hr, sl, h, fun v H1 d M1 h1 g1 hr1 r1 => ⟨τ, M1, _, hr1, sl.mono g1, h1, fun w H2 e M2 h2 g2 hr2 r2 => ⟨d, e, M2, _, hr2, Rep.mono g2 d r1, r2, h2, fun z H3 f M3 h3 g3 hr3 r3 => ?_⟩⟩⟩
    have g := (g1.trans g2).trans g3
    unfold chain3 at h3
    cases r3 <;> try exact h3.elim
    rename_i k
    cases k with
    | false => exact ⟨_, rfl, by rw [if_neg Bool.false_ne_true]; exact L.from g |>.here hr3 (.bl _) h3⟩
    | true => exact ⟨_, rfl, by rw [if_pos rfl]; exact ⟨τ, M3, _, hr3, sl.mono g, h3, fun y H4 f M4 h4 g4 hr4 r4 => ⟨e, f, M4, _, hr4, Rep.mono (g3.trans g4) e r2, r4, h4, L.from (g.trans g4)⟩⟩⟩
theorem lt_chain {op op' : CmpOp} {r r' : R23} (ho : OpR X (compareOp op) (lift2 X.K r)) (ho' : OpR X (compareOp op') (lift2 X.K r')) (ha : PE X a (lift X.K ta)) (hb : PE X b (lift X.K tb)) (hc : PE X c (lift X.K tc))
    (hm : lastMarks [op, op'] [b, c] = false) :
    PT X (.Compare a [op, op'] [b, c] pos) (liftT X.K fun τ M Q => ta τ M fun d M1 => tb τ M1 fun e M2 => r d e M2 fun z M3 => chainT3 tc r' e τ z M3 Q) :=
  PTw (pt_chain ho ho' ha hb hc hm) fun σ H Q h => by
    obtain ⟨τ, M, Q3, hr, sl, h, L⟩ := h
    refine ⟨τ, M, _, hr, sl, h, fun v H1 d M1 h1 g1 hr1 r1 => ⟨τ, M1, _, hr1, sl.mono g1, h1, fun w H2 e M2 h2 g2 hr2 r2 => ⟨d, e, M2, _, hr2, Rep.mono g2 d r1, r2, h2, fun z H3 f M3 h3 g3 hr3 r3 => ?_⟩⟩⟩
    have g := (g1.trans g2).trans g3
    unfold chainT3 at h3
    cases r3 <;> try exact h3.elim
    rename_i k
    cases k with
    | false => exact ⟨_, rfl, by rw [if_neg Bool.false_ne_true]; exact ⟨_, rfl, L _ _ _ h3 g hr3⟩⟩
    | true =>
      refine ⟨_, rfl, ?_⟩
      rw [if_pos rfl]
      exact ⟨τ, M3, _, hr3, sl.mono g, h3, fun y H4 f M4 h4 g4 hr4 r4 => ⟨e, f, M4, _, hr4, Rep.mono (g3.trans g4) e r2, r4, h4, fun z H5 f M5 h5 g5 hr5 r5 => isB_ok h5 r5 hr5 ((g.trans g4).trans g5) L⟩⟩
theorem lt_truth (ha : PE X a (lift X.K ta)) (he : ∀ whole, isTrue a X.env whole = (do let v ← whole; standAt a.pos; holding [v] (truthy v))) : PT X a (liftT X.K fun τ M Q => ta τ M fun d M1 => tru3 d M1 Q) :=
  PTw (pt_truth ha he) fun σ H Q h => by
    obtain ⟨τ, M, Q3, hr, sl, h, L⟩ := h
    exact ⟨τ, M, _, hr, sl, h, fun v H1 d M1 h1 g1 hr1 r1 => let ⟨k, tk, q⟩ := tru3_ok hr1 r1 h1; ⟨k, tk, L _ _ _ q g1 hr1⟩⟩
theorem lt_not {tt : TT3} (ha : PT X a (liftT X.K tt)) : PT X (.UnaryOp .Not a pos) (liftT X.K fun τ M Q => tt τ M fun k M1 => Q (!k) M1) :=
  PTw (pt_not ha) fun σ H Q h => by
    obtain ⟨τ, M, Q3, hr, sl, h, L⟩ := h
    exact ⟨τ, M, _, hr, sl, h, fun b H1 M1 h1 g1 hr1 => L _ _ _ h1 g1 hr1⟩
theorem le_not (ha : PE X a (lift X.K ta)) : PE X (.UnaryOp .Not a pos) (lift X.K fun τ M Q => ta τ M fun d M1 => tru3 d M1 fun k M2 => Q (.bl (!k)) M2) :=
  PEw (pe_notT ha) fun σ H Q h => by
    obtain ⟨τ, M, Q3, hr, sl, h, L⟩ := h
    exact ⟨τ, M, _, hr, sl, h, fun v H1 d M1 h1 g1 hr1 r1 => let ⟨k, tk, q⟩ := tru3_ok hr1 r1 h1; ⟨k, tk, L.from g1 |>.here hr1 (.bl _) q⟩⟩
theorem lt_ite {tt ua ub : TT3} (ht : PT X c (liftT X.K tt)) (ha : PT X a (liftT X.K ua)) (hb : PT X b (liftT X.K ub)) : PT X (.IfExp c a b pos) (liftT X.K fun τ M Q => tt τ M fun k M1 => if k = true then ua τ M1 Q else ub τ M1 Q) := by
  refine ⟨fun pins s σ H Q I h => ?_⟩
  obtain ⟨τ, M, Q3, hr, sl, h, L⟩ := h
  refine isTrue_IfExp (thn (ht.run pins s σ H (fun k H1 => if k = true then liftT X.K ua σ H1 Q else liftT X.K ub σ H1 Q) I ⟨τ, M, _, hr, sl, h, fun k H1 M1 h1 g1 hr1 => ?_⟩) fun d s1 ⟨H1, I1, q1⟩ => ?_)
  · cases k with
    | true => rw [if_pos rfl] at h1 ⊢; exact ⟨τ, M1, _, hr1, sl.mono g1, h1, fun b H' M' q g => L b H' M' q (g1.trans g)⟩
    | false => rw [if_neg Bool.false_ne_true] at h1 ⊢; exact ⟨τ, M1, _, hr1, sl.mono g1, h1, fun b H' M' q g => L b H' M' q (g1.trans g)⟩
  · cases d with
    | true => exact ha.run pins s1 σ H1 Q I1 q1
    | false => exact hb.run pins s1 σ H1 Q I1 q1
theorem le_ite {tt : TT3} (ht : PT X c (liftT X.K tt)) (ha : PE X a (lift X.K ta)) (hb : PE X b (lift X.K tb)) : PE X (.IfExp c a b pos) (lift X.K fun τ M Q => tt τ M fun k M1 => if k = true then ta τ M1 Q else tb τ M1 Q) :=
  PEw (pe_ifExp ht ha hb) fun σ H Q h => by
    obtain ⟨τ, M, Q3, hr, sl, h, L⟩ := h
    refine ⟨τ, M, _, hr, sl, h, fun k H1 M1 h1 g1 hr1 => ?_⟩
    cases k with
    | true => rw [if_pos rfl] at h1 ⊢; exact ⟨τ, M1, _, hr1, sl.mono g1, h1, L.from g1⟩
    | false => rw [if_neg Bool.false_ne_true] at h1 ⊢; exact ⟨τ, M1, _, hr1, sl.mono g1, h1, L.from g1⟩
/-! and, or: tests -/
variable {tt uu : TT3} {rest : List Expr}
theorem lw_and1 (ha : PT X a (liftT X.K tt)) : PW X (.BoolOp .And [a] pos) (liftT X.K fun τ M Q => tt τ M fun k M1 => if k = true then Q true M1 else Q false M1) :=
  PWw (pw_and1 ha) fun σ H Q h => by
    obtain ⟨τ, M, Q3, hr, sl, h, L⟩ := h
    refine ⟨τ, M, _, hr, sl, h, fun b H1 M1 h1 g1 hr1 => ?_⟩
    cases b <;> exact L _ _ _ h1 g1 hr1
theorem lw_or1 (ha : PT X a (liftT X.K tt)) : PW X (.BoolOp .Or [a] pos) (liftT X.K fun τ M Q => tt τ M fun k M1 => if k = true then Q true M1 else Q false M1) :=
  PWw (pw_or1 ha) fun σ H Q h => by
    obtain ⟨τ, M, Q3, hr, sl, h, L⟩ := h
    refine ⟨τ, M, _, hr, sl, h, fun b H1 M1 h1 g1 hr1 => ?_⟩
    cases b <;> exact L _ _ _ h1 g1 hr1
theorem lw_and (ha : PT X a (liftT X.K tt)) (hb : PW X (.BoolOp .And (b :: rest) pos) (liftT X.K uu)) : PW X (.BoolOp .And (a :: b :: rest) pos) (liftT X.K fun τ M Q => tt τ M fun k M1 => if k = true then uu τ M1 Q else Q false M1) :=
  PWw (pw_and ha hb) fun σ H Q h => by
    obtain ⟨τ, M, Q3, hr, sl, h, L⟩ := h
    refine ⟨τ, M, _, hr, sl, h, fun k H1 M1 h1 g1 hr1 => ?_⟩
    cases k with
    | true => rw [if_pos rfl] at h1 ⊢; exact ⟨τ, M1, _, hr1, sl.mono g1, h1, fun b H' M' q g => L b H' M' q (g1.trans g)⟩
    | false => rw [if_neg Bool.false_ne_true] at h1 ⊢; exact L _ _ _ h1 g1 hr1
theorem lw_or (ha : PT X a (liftT X.K tt)) (hb : PW X (.BoolOp .Or (b :: rest) pos) (liftT X.K uu)) : PW X (.BoolOp .Or (a :: b :: rest) pos) (liftT X.K fun τ M Q => tt τ M fun k M1 => if k = true then Q true M1 else uu τ M1 Q) :=
  PWw (pw_or ha hb) fun σ H Q h => by
    obtain ⟨τ, M, Q3, hr, sl, h, L⟩ := h
    refine ⟨τ, M, _, hr, sl, h, fun k H1 M1 h1 g1 hr1 => ?_⟩
    cases k with
    | false => rw [if_neg Bool.false_ne_true] at h1 ⊢; exact ⟨τ, M1, _, hr1, sl.mono g1, h1, fun b H' M' q g => L b H' M' q (g1.trans g)⟩
    | true => rw [if_pos rfl] at h1 ⊢; exact L _ _ _ h1 g1 hr1
/-! .. values -/
theorem le_and (ha : PE X a (lift X.K ta)) (hb : PE X (.BoolOp .And (b :: rest) pos) (lift X.K tb)) : PE X (.BoolOp .And (a :: b :: rest) pos) (lift X.K fun τ M Q => ta τ M fun d M1 => tru3 d M1 fun k M2 => if k = true then tb τ M2 Q else Q d M2) :=
  PEw (pe_andT ha hb) fun σ H Q h => by
    obtain ⟨τ, M, Q3, hr, sl, h, L⟩ := h
    refine ⟨τ, M, _, hr, sl, h, fun v H1 d M1 h1 g1 hr1 r1 => ?_⟩
    obtain ⟨k, tk, q⟩ := tru3_ok hr1 r1 h1
    refine ⟨k, tk, ?_⟩
    cases k with
    | true => rw [if_pos rfl] at q ⊢; exact ⟨τ, M1, _, hr1, sl.mono g1, q, L.from g1⟩
    | false => rw [if_neg Bool.false_ne_true] at q ⊢; exact L.from g1 |>.here hr1 r1 q
theorem le_or (ha : PE X a (lift X.K ta)) (hb : PE X (.BoolOp .Or (b :: rest) pos) (lift X.K tb)) : PE X (.BoolOp .Or (a :: b :: rest) pos) (lift X.K fun τ M Q => ta τ M fun d M1 => tru3 d M1 fun k M2 => if k = true then Q d M2 else tb τ M2 Q) :=
  PEw (pe_orT ha hb) fun σ H Q h => by
    obtain ⟨τ, M, Q3, hr, sl, h, L⟩ := h
    refine ⟨τ, M, _, hr, sl, h, fun v H1 d M1 h1 g1 hr1 r1 => ?_⟩
    obtain ⟨k, tk, q⟩ := tru3_ok hr1 r1 h1
    refine ⟨k, tk, ?_⟩
    cases k with
    | false => rw [if_neg Bool.false_ne_true] at q ⊢; exact ⟨τ, M1, _, hr1, sl.mono g1, q, L.from g1⟩
    | true => rw [if_pos rfl] at q ⊢; exact L.from g1 |>.here hr1 r1 q
/-! arguments, displays -/
theorem la_nil : PA X [] (liftA X.K 0 fun τ M Q => Q [] M) := PAw pa_nil fun σ H Q h => by
  obtain ⟨τ, M, Q3, hr, sl, h, L⟩ := h
  exact L _ _ _ _ h .refl hr .nil rfl
theorem la_cons {n : Nat} {es : List Expr} {tr : TA3} (ha : PE X e (lift X.K te)) (hr : PA X es (liftA X.K n tr)) (hs : starEach (e :: es) X.env = (false, eval e X.env) :: starEach es X.env) :
    PA X (e :: es) (liftA X.K (n + 1) fun τ M Q => te τ M fun d M1 => tr τ M1 fun ds M2 => Q (d :: ds) M2) := PAw (pa_cons ha hr hs) fun σ H Q h => by
  obtain ⟨τ, M, Q3, hr, sl, h, L⟩ := h
  exact ⟨τ, M, _, hr, sl, h, fun v H1 d M1 h1 g1 hr1 r1 => ⟨τ, M1, _, hr1, sl.mono g1, h1, fun vs H2 ds M2 h2 g2 hr2 r2 hn => L _ _ _ _ h2 (g1.trans g2) hr2 (.cons (Rep.mono g2 d r1) r2) (by rw [List.length_cons, hn])⟩⟩
variable {es : List Expr} {tr : TA3} {n : Nat}
theorem newK_ok {K : PySem.W.Frag} {H : Hp} {M : Mp} {Q3 : K3} {Q : VK} {xs : List V} {l : List D} (h : HR K M H) (r : Reps K H xs l) (q : Q3 (.kt l) M) (L : Lnk K H Q3 Q) : ∀ p, H p = none → Q (.ref p) (upd H p (.tup xs)) := fun p e =>
  L _ _ _ _ q (.new e) (h.upd (.new e) (h.none e)) (.kt upd_same (r.mono (.new e)))
theorem le_ktup {x1} (h : PA X es (liftA X.K n tr)) (hl : n ≤ sizeLine) : PE X (.Tuple es x1 pos) (lift X.K fun τ M Q => tr τ M fun ds M1 => Q (.kt ds) M1) := PEw (pe_tup h) fun σ H Q h => by
  obtain ⟨τ, M, Q3, hr, sl, h, L⟩ := h
  exact ⟨τ, M, _, hr, sl, h, fun vs H1 ds M1 h1 g1 hr1 r1 hn => ⟨by rw [r1.length, hn]; exact hl, newK_ok hr1 r1 h1 (L.from g1)⟩⟩
theorem le_tup {x1} (h : PA X es (liftA X.K n tr)) (hl : n ≤ sizeLine) : PE X (.Tuple es x1 pos) (lift X.K fun τ M Q => tr τ M fun ds M1 => Q (.tup ds) M1) := PEw (pe_tup h) fun σ H Q h => by
  obtain ⟨τ, M, Q3, hr, sl, h, L⟩ := h
  exact ⟨τ, M, _, hr, sl, h, fun vs H1 ds M1 h1 g1 hr1 r1 hn => ⟨by rw [r1.length, hn]; exact hl, newT_ok hr1 r1 h1 (L.from g1)⟩⟩
theorem le_lst (h : PA X es (liftA X.K n tr)) (hl : n ≤ sizeLine) : PE X (.List es pos) (lift X.K fun τ M Q => tr τ M fun ds M1 => newL ds M1 Q) := PEw (pe_lst h) fun σ H Q h => by
  obtain ⟨τ, M, Q3, hr, sl, h, L⟩ := h
  exact ⟨τ, M, _, hr, sl, h, fun vs H1 ds M1 h1 g1 hr1 r1 hn => ⟨by rw [r1.length, hn]; exact hl, newL_ok hr1 r1 h1 (L.from g1)⟩⟩
/-! subscripts -/
theorem le_ix (hu : X.A.units + 64 < cLine) (ha : PE X a (lift X.K ta)) (hb : PE X b (lift X.K tb)) (hs : PlainIx b) : PE X (.Subscript a b pos) (lift X.K fun τ M Q => ta τ M fun d M1 => tb τ M1 fun e M2 => ix3 d e M2 Q) :=
  PEw (pe_ix (ix_ok hu) ha hb hs) fun σ H Q h => lift_then2 h fun v w H1 q => q
def liftO (K : PySem.W.Frag) (t : S3 → Mp → (Option Int → Mp → Prop) → Prop) : TO := fun σ H Q => ∃ τ M Q3, HR K M H ∧ Slots K H σ τ ∧ t τ M Q3 ∧ ∀ o H' M', Q3 o M' → Grow K H H' → HR K M' H' → Q o H'
theorem POw {e : Option Expr} {t t' : TO} (h : PO X e t') (w : ∀ σ H Q, t σ H Q → t' σ H Q) : PO X e t := ⟨fun pins s σ H Q I q => h.run pins s σ H Q I (w σ H Q q)⟩
theorem lo_none : PO X none (liftO X.K fun τ M Q => Q none M) := POw po_none fun σ H Q h => by
  obtain ⟨τ, M, Q3, hr, sl, h, L⟩ := h
  exact L _ _ _ h .refl hr
theorem lo_some (ha : PE X a (lift X.K ta)) : PO X (some a) (liftO X.K fun τ M Q => ta τ M fun d M1 => isI d fun i => Q (some i) M1) := POw (po_some ha) fun σ H Q h => by
  obtain ⟨τ, M, Q3, hr, sl, h, L⟩ := h
  refine ⟨τ, M, _, hr, sl, h, fun v H1 d M1 h1 g1 hr1 r1 => ?_⟩
  obtain ⟨i, rfl, h1⟩ := isI_inv h1
  cases r1
  exact ⟨_, rfl, L _ _ _ h1 g1 hr1⟩
variable {lo hi : Option Expr} {tl th : S3 → Mp → (Option Int → Mp → Prop) → Prop} {p2 : Pos}
theorem le_sl (ha : PE X a (lift X.K ta)) (hl : PO X lo (liftO X.K tl)) (hh : PO X hi (liftO X.K th)) : PE X (.Subscript a (.Slice lo hi none p2) pos) (lift X.K fun τ M Q => ta τ M fun d M1 => tl τ M1 fun l M2 => th τ M2 fun h M3 => sl3 d l h M3 Q) :=
  PEw (pe_slice sl_ok ha hl hh) fun σ H Q h => by
    obtain ⟨τ, M, Q3, hr, sl, h, L⟩ := h
    exact ⟨τ, M, _, hr, sl, h, fun v H1 d M1 h1 g1 hr1 r1 => ⟨τ, M1, _, hr1, sl.mono g1, h1, fun l H2 M2 h2 g2 hr2 => ⟨τ, M2, _, hr2, sl.mono (g1.trans g2), h2, fun u H3 M3 h3 g3 hr3 =>
      ⟨d, M3, Q3, hr3, Rep.mono (g2.trans g3) d r1, h3, L.from ((g1.trans g2).trans g3)⟩⟩⟩⟩
theorem le_rev {k : Nat} {p1 p3 : Pos} (ha : PE X a (lift X.K ta)) : PE X (.Subscript a (.Slice none none (some (.UnaryOp .USub (.Constant (.int 1) k p1) p2)) p3) pos) (lift X.K fun τ M Q => ta τ M fun d M1 => rev3 d M1 Q) :=
  PEw (pe_revA ha) fun σ H Q h => by
    obtain ⟨τ, M, Q3, hr, sl, h, L⟩ := h
    refine ⟨τ, M, _, hr, sl, h, fun v H1 d M1 h1 g1 hr1 r1 => ?_⟩
    cases r1 with
    | cl s q => exact ⟨_, _, rfl, .inl ⟨s.l, newL_ok hr1 q.reverse h1 (L.from g1)⟩⟩
    | tup s q => exact ⟨_, _, rfl, .inr ⟨s, newT_ok hr1 q.reverse h1 (L.from g1)⟩⟩
    | ref p =>
      unfold rev3 at h1
      dsimp only at h1
      split at h1
      · rename_i l e
        obtain ⟨xs, hx, q⟩ := hr1.list (getL_some e)
        exact ⟨_, _, rfl, .inl ⟨SqL.of hx, newL_ok hr1 q.reverse h1 (L.from g1)⟩⟩
      · exact h1.elim
    | _ => exact h1.elim
/-! calls -/
variable {x : Str} {p : Pos}
def liftSp (K : PySem.W.Frag) (sp : Sp3) : Sp := fun vs H Q _ => ∃ ds M Q3, HR K M H ∧ Reps K H vs ds ∧ sp ds M Q3 ∧ Lnk K H Q3 Q
/-- a def of the module that keeps its promise -/
def Good (X : Cx) (x : String) (sp : Sp3) : Prop := ∃ f fd ps k, FnOk X.prog X.w X.K X.mg X.base CX0 k f fd ps (liftSp X.K sp) ∧ Room k X.A ∧ X.mg (Str.ofString x) = some (.ref f) ∧ PySem.W.keepIn X.K (.ref f) = true ∧ Binds X.K fd ps []
theorem le_call {x : String} {sp : Sp3} (g : Good X x sp) (hg : Gl X (Str.ofString x)) (ha : PA X (e :: es) (liftA X.K n tr)) (hdb : (Str.ofString x == ("__debug__" : Str)) = false)
    (he : starEach (e :: es) X.env = (false, eval e X.env) :: starEach es X.env) (hpl : (backTo pos (starEach es X.env)).any (·.1) = false) :
    PE X (.Call (.Name (Str.ofString x) p) (e :: es) [] pos) (lift X.K fun τ M Q => tr τ M fun ds M1 => sp ds M1 Q) := by
  obtain ⟨f, fd, ps, k, F, hr, hm, hk, hb⟩ := g
  refine PEw (pe_call F hr hg hm hk hb .nil pass0 ha hdb he hpl) fun σ H Q h => ?_
  obtain ⟨τ, M, Q3, hr, sl, h, L⟩ := h
  exact ⟨τ, M, _, hr, sl, h, fun vs H1 ds M1 h1 g1 hr1 r1 _ => ⟨ds, M1, Q3, hr1, by rw [List.append_nil]; exact r1, h1, L.from g1⟩⟩
theorem le_call0 {x : String} {sp : Sp3} (g : Good X x sp) (hg : Gl X (Str.ofString x)) (hdb : (Str.ofString x == ("__debug__" : Str)) = false) :
    PE X (.Call (.Name (Str.ofString x) p) [] [] pos) (lift X.K fun τ M Q => sp [] M Q) := by
  obtain ⟨f, fd, ps, k, F, hr, hm, hk, hb⟩ := g
  refine PEw (pe_call0 F hr hg hm hk hb .nil pass0 hdb) fun σ H Q h => ?_
  obtain ⟨τ, M, Q3, hr, sl, h, L⟩ := h
  exact ⟨[], M, Q3, hr, .nil, h, L⟩
theorem tCB_of {r : List D → Mp → K3 → Prop} {σ : L2.St} {H : Hp} {Q : VK} (h : lift X.K (fun τ M Q => tr τ M fun ds M1 => r ds M1 Q) σ H Q) : tCB (liftC X.K r) (liftA X.K n tr) σ H Q := by
  obtain ⟨τ, M, Q3, hr, sl, h, L⟩ := h
  exact ⟨τ, M, _, hr, sl, h, fun vs H1 ds M1 h1 g1 hr1 r1 _ => ⟨ds, M1, Q3, hr1, r1, h1, L.from g1⟩⟩
theorem le_bi {x : Str} {id : String} {r : List D → Mp → K3 → Prop} (hc : CallR X (.builtin id) (liftC X.K r)) (hg : Gl X x) (hm : X.mg x = none) (hv : bootBuiltins x = some (.builtin id)) (ha : PA X (e :: es) (liftA X.K n tr))
    (hn : x ≠ "__name__") (hdb : (x == ("__debug__" : Str)) = false) (he : starEach (e :: es) X.env = (false, eval e X.env) :: starEach es X.env) (hpl : (backTo pos (starEach es X.env)).any (·.1) = false) :
    PE X (.Call (.Name x p) (e :: es) [] pos) (lift X.K fun τ M Q => tr τ M fun ds M1 => r ds M1 Q) := PEw (pe_callB hc hg hm hv ha hn hdb he hpl) fun σ H Q h => tCB_of h
theorem le_biT {x : Str} {id : String} {r : List D → Mp → K3 → Prop} (hc : CallR X (.type id) (liftC X.K r)) (hg : Gl X x) (hm : X.mg x = none) (hv : bootBuiltins x = some (.type id)) (ha : PA X (e :: es) (liftA X.K n tr))
    (hn : x ≠ "__name__") (hdb : (x == ("__debug__" : Str)) = false) (he : starEach (e :: es) X.env = (false, eval e X.env) :: starEach es X.env) (hpl : (backTo pos (starEach es X.env)).any (·.1) = false) :
    PE X (.Call (.Name x p) (e :: es) [] pos) (lift X.K fun τ M Q => tr τ M fun ds M1 => r ds M1 Q) := PEw (pe_callTy hc hg hm hv ha hn hdb he hpl) fun σ H Q h => tCB_of h
theorem le_biF {x : Str} {id : String} {r : List D → Mp → K3 → Prop} (hc : CallR X (.builtin id) (liftC X.K r)) (hg : Gl X x) (hm : X.mg x = some (.builtin id)) (ha : PA X (e :: es) (liftA X.K n tr))
    (hdb : (x == ("__debug__" : Str)) = false) (he : starEach (e :: es) X.env = (false, eval e X.env) :: starEach es X.env) (hpl : (backTo pos (starEach es X.env)).any (·.1) = false) :
    PE X (.Call (.Name x p) (e :: es) [] pos) (lift X.K fun τ M Q => tr τ M fun ds M1 => r ds M1 Q) := PEw (pe_callBfun hc hg hm ha hdb he hpl) fun σ H Q h => tCB_of h
end
end G3
set_option Elab.async false
set_option linter.all false
set_option maxRecDepth 100000
set_option maxHeartbeats 4000000
namespace G3
open PySem PySem.Spec PyProof.Rows L2
section
variable {X : Cx}
/-! ### methods -/
def Me.id : Me → String
  | .append => "list.append" | .extend => "list.extend" | .pop => "list.pop" | .popAt => "list.pop" | .reverse => "list.reverse" | .insert => "list.insert" | .index => "list.index" | .get1 => "dict.get" | .get2 => "dict.get"
def Me.nm : Me → Str
  | .append => "append" | .extend => "extend" | .pop => "pop" | .popAt => "pop" | .reverse => "reverse" | .insert => "insert" | .index => "index" | .get1 => "get" | .get2 => "get"
theorem seqIx {n : Nat} {i : Int} {k : Nat} (h : ixN n i = some k) (hn : n ≤ sizeLine) : seqIndex? i n = some k ∧ -(2 ^ 63) ≤ i ∧ i < 2 ^ 63 ∧ k < n := by
  obtain ⟨h1, h2, h3, h4⟩ := ixN_seq h
  have hl := line63
  exact ⟨h1, by omega, by omega, h2⟩
theorem lenLine {pins : List (Addr × Obj)} {σ : L2.St} {H : Hp} {s : Shared} {p : Addr} {xs : List V} (I : L2.Inv X pins σ H s) (h : H p = some (.lst xs)) : xs.length ≤ sizeLine := (I.list (SqL.of h)).elim fun _ q => q.2.2
theorem me_ok (hu : X.A.units + 64 < cLine) : ∀ m : Me, MtR X m.id (liftM X.K (me3 m)) := by
  intro m pins s σ H x xs v us Q I rx rs h
  obtain ⟨d, ds, M, Q3, hr, r1, rr, hh, L⟩ := h
  cases m with
  | append =>
    obtain ⟨y, rfl, h⟩ := one_inv hh
    obtain ⟨p, l, rfl, e, hz, q⟩ := refL_inv h
    obtain ⟨w, rfl, rw'⟩ := Reps1 rr
    obtain ⟨ys, hy, q1⟩ := hr.list e
    cases r1
    exact mt_append pins s σ H _ _ v us Q I rx rs ⟨_, _, _, rfl, rfl, hy, by rw [q1.length]; exact hz, L _ _ _ _ q (.lst hy) (hr.putL (.lst hy) (q1.snoc rw')) .non⟩
  | extend =>
    obtain ⟨y, rfl, h⟩ := one_inv hh
    obtain ⟨p, l, rfl, e, h⟩ := refL_inv h
    obtain ⟨b, m, rfl, e2, hz, q⟩ := refL_inv h
    obtain ⟨w, rfl, rw'⟩ := Reps1 rr
    obtain ⟨ys, hy, q1⟩ := hr.list e
    obtain ⟨zs, hz', q2⟩ := hr.list e2
    cases r1; cases rw'
    exact mt_extend pins s σ H _ _ v us Q I rx rs ⟨_, _, _, _, rfl, rfl, hy, hz', by rw [q1.length, q2.length]; exact hz, L _ _ _ _ q (.lst hy) (hr.putL (.lst hy) (q1.append q2)) .non⟩
  | pop =>
    obtain ⟨rfl, h⟩ := hh
    obtain ⟨p, l, rfl, e, h⟩ := refL_inv h
    obtain ⟨y, ey, q⟩ := some3_inv h
    obtain ⟨ys, hy, q1⟩ := hr.list e
    obtain ⟨w, hw, rw'⟩ := q1.get ey
    cases r1; cases rr
    exact mt_pop pins s σ H _ _ v us Q I rx rs ⟨_, _, _, rfl, rfl, hy, by rw [q1.length]; exact hw, L _ _ _ _ q (.lst hy) (hr.putL (.lst hy) q1.dropLast) (Rep.mono (.lst hy) _ rw')⟩
  | popAt =>
    obtain ⟨y, rfl, h⟩ := one_inv hh
    obtain ⟨i, rfl, h⟩ := isI_inv h
    obtain ⟨p, l, rfl, e, h⟩ := refL_inv h
    obtain ⟨k, ek, h⟩ := some3_inv h
    obtain ⟨z, ez, q⟩ := some3_inv h
    obtain ⟨w, rfl, rw'⟩ := Reps1 rr
    obtain ⟨ys, hy, q1⟩ := hr.list e
    obtain ⟨w2, hw2, rw2⟩ := q1.get ez
    cases r1; cases rw'
    obtain ⟨g1, g2, g3, g4⟩ := seqIx (n := ys.length) (by rw [q1.length]; exact ek) (lenLine I hy)
    exact mt_popAt pins s σ H _ _ v us Q I rx rs ⟨_, _, _, _, _, rfl, rfl, hy, g2, g3, g1, hw2, L _ _ _ _ q (.lst hy) (hr.putL (.lst hy) (q1.erase k)) (Rep.mono (.lst hy) _ rw2)⟩
  | reverse =>
    obtain ⟨rfl, h⟩ := hh
    obtain ⟨p, l, rfl, e, q⟩ := refL_inv h
    obtain ⟨ys, hy, q1⟩ := hr.list e
    cases r1; cases rr
    exact mt_reverse pins s σ H _ _ v us Q I rx rs ⟨_, _, rfl, rfl, hy, L _ _ _ _ q (.lst hy) (hr.putL (.lst hy) q1.reverse) .non⟩
  | insert =>
    obtain ⟨x1, y, rfl, h⟩ := two_inv hh
    obtain ⟨i, rfl, h⟩ := isI_inv h
    obtain ⟨p, l, rfl, e, hz, h0, h1, q⟩ := refL_inv h
    obtain ⟨w, w2, rfl, rw1, rw2⟩ := Reps2 rr
    obtain ⟨ys, hy, q1⟩ := hr.list e
    cases r1; cases rw1
    exact mt_insert pins s σ H _ _ v us Q I rx rs ⟨_, _, _, _, rfl, rfl, hy, by rw [q1.length]; exact hz, h0, h1, L _ _ _ _ q (.lst hy) (hr.putL (.lst hy) (((q1.take _).snoc rw2).append (q1.drop _))) .non⟩
  | index =>
    obtain ⟨y, rfl, h⟩ := one_inv hh
    obtain ⟨l, el, f1, f2, j, z, ez, e1, e2, q⟩ := some3_inv h
    obtain ⟨w, rfl, rw'⟩ := Reps1 rr
    obtain ⟨a, ys, rfl, hs, q1⟩ := listAt_ok hr r1 el
    obtain ⟨w2, hw2, rw2⟩ := q1.get ez
    have fz : flatD z = true := List.all_eq_true.mp f2 z (List.mem_of_getElem? ez)
    refine mt_index pins s σ H _ _ v us Q I rx rs ⟨_, _, _, j, w2, rfl, rfl, hs, flat_ok rw' f1, flats_ok q1 f2, hw2, by rw [eqF_ok rw2 rw' fz f1]; exact e1, fun m z' hm hz => ?_, L.here hr (.int _) q⟩
    obtain ⟨d', hd', rd'⟩ := q1.get' hz
    rw [eqF_ok rd' rw' (List.all_eq_true.mp f2 d' (List.mem_of_getElem? hd')) f1]
    exact e2 m d' hm hd'
  | get1 =>
    obtain ⟨y, rfl, h⟩ := one_inv hh
    obtain ⟨k, ek, h⟩ := some3_inv h
    obtain ⟨p, l, rfl, e, q⟩ := refD_inv h
    obtain ⟨w, rfl, rw'⟩ := Reps1 rr
    obtain ⟨ys, hy, q1⟩ := hr.dic e
    have e2 := keyD_ok rw' ek
    subst e2
    cases r1
    obtain rfl : v = Value.ref p := rx
    obtain ⟨u, rfl, ru⟩ := vals1 rs
    refine d_get1 (by omega) I (DGet.k hy) ru fun w' s3 I3 rw3 => ⟨_, H, I3, rw3, ?_⟩
    rcases getK_ok (k := k) q1 with ⟨z1, z2⟩ | ⟨w, d', z1, z2, rd⟩
    · rw [z2] at q; rw [z1]; exact L.here hr .non q
    · rw [z2] at q; rw [z1]; exact L.here hr rd q
  | get2 =>
    obtain ⟨y, y2, rfl, h⟩ := two_inv hh
    obtain ⟨k, ek, h⟩ := some3_inv h
    obtain ⟨p, l, rfl, e, q⟩ := refD_inv h
    obtain ⟨w, w2, rfl, rw1, rw2⟩ := Reps2 rr
    obtain ⟨ys, hy, q1⟩ := hr.dic e
    have e2 := keyD_ok rw1 ek
    subst e2
    cases r1
    obtain rfl : v = Value.ref p := rx
    obtain ⟨u, u2, rfl, ru, ru2⟩ := vals2 rs
    refine d_get2 (by omega) I (DGet.k hy) ru ru2 fun w' s3 I3 rw3 => ⟨_, H, I3, rw3, ?_⟩
    rcases getK_ok (k := k) q1 with ⟨z1, z2⟩ | ⟨w, d', z1, z2, rd⟩
    · rw [z2] at q; rw [z1]; exact L.here hr rw2 q
    · rw [z2] at q; rw [z1]; exact L.here hr rd q
theorem isTyM_ok {H : Hp} {M : Mp} {T : String} {d : D} {v : V} (hr : HR X.K M H) (r : Rep X.K H v d) (h : isTyM T d M) : tyV X.K T v H := by
  unfold isTyM at h
  cases r with
  | ref p =>
    dsimp only at h
    split at h
    · rename_i l e
      obtain ⟨xs, hx, _⟩ := hr.list e
      exact .inl ⟨h, _, SqL.of hx⟩
    · rename_i l e
      obtain ⟨xs, hx, _⟩ := hr.dic e
      exact .inr (.inr (.inl ⟨h, .inl ⟨_, hx⟩⟩))
    all_goals exact h.elim
  | cl s q => exact .inl ⟨h, _, s.l⟩
  | _ => exact h.elim
variable {a b c e o : Expr} {ta tb tc te to : TE3} {pos apos : Pos} {es : List Expr} {tr : TA3} {n : Nat}
theorem le_me {T id : String} {name : Str} {r : D → List D → Mp → K3 → Prop} (pa : PlainAttrs T) (slot : PySem.Slot T name id) (hty : typeOf (.builtin id) = pure (.type "method_descriptor")) (hm : MtR X id (liftM X.K r)) (ho : PE X o (lift X.K to)) (ha : PA X (e :: es) (liftA X.K n tr))
    (hbase : attributeBase o name X.env (eval o X.env) = eval o X.env)
    (hfew : ((backTo pos (starEach (e :: es) X.env)).all (fun x => !x.1) && (backToKw pos (keywordEach [] X.env)).all (fun x => x.1.isSome)
      && decide ((e :: es).length + ([] : List Keyword).length + (if ([] : List Keyword).isEmpty then 0 else 1) < 30)) = true)
    (hline : (apos.endLine == pos.line) = true) (hs : starEach (e :: es) X.env = (false, eval e X.env) :: starEach es X.env) (hplain : (backTo pos (starEach es X.env)).any (·.1) = false) :
    PE X (.Call (.Attribute o name apos) (e :: es) [] pos) (lift X.K fun τ M Q => to τ M fun d M1 => isTyM T d M1 ∧ tr τ M1 fun ds M2 => r d ds M2 Q) :=
  PEw (pe_bm pa slot hty hm ho ha hbase hfew hline hs hplain) fun σ H Q h => by
    obtain ⟨τ, M, Q3, hr, sl, h, L⟩ := h
    exact ⟨τ, M, _, hr, sl, h, fun v H1 d M1 h1 g1 hr1 r1 => ⟨isTyM_ok hr1 r1 h1.1, τ, M1, _, hr1, sl.mono g1, h1.2, fun vs H2 ds M2 h2 g2 hr2 r2 _ =>
      ⟨d, ds, M2, Q3, hr2, Rep.mono g2 d r1, r2, h2, L.from (g1.trans g2)⟩⟩⟩
theorem le_me0 {T id : String} {name : Str} {r : D → List D → Mp → K3 → Prop} (pa : PlainAttrs T) (slot : PySem.Slot T name id) (hty : typeOf (.builtin id) = pure (.type "method_descriptor")) (hm : MtR X id (liftM X.K r)) (ho : PE X o (lift X.K to))
    (hbase : attributeBase o name X.env (eval o X.env) = eval o X.env) (hline : (apos.endLine == pos.line) = true) :
    PE X (.Call (.Attribute o name apos) [] [] pos) (lift X.K fun τ M Q => to τ M fun d M1 => isTyM T d M1 ∧ r d [] M1 Q) :=
  PEw (pe_bm0 pa slot hty hm ho hbase hline) fun σ H Q h => by
    obtain ⟨τ, M, Q3, hr, sl, h, L⟩ := h
    exact ⟨τ, M, _, hr, sl, h, fun v H1 d M1 h1 g1 hr1 r1 => ⟨isTyM_ok hr1 r1 h1.1, d, [], M1, Q3, hr1, r1, .nil, h1.2, L.from g1⟩⟩
/-! isinstance -/
theorem isi1_ok {t : String} (ht : t ∈ askTy) : CallR X (.builtin "isinstance") (liftC X.K fun ds M Q => two ds fun d e => e = .ty t ∧ some3 (tyName d M) fun y => Q (.bl ([t].any fun T => isTy y T)) M) := by
  intro pins s σ H xs us Q I rx h
  obtain ⟨ds, M, Q3, hr, rs, hh, L⟩ := h
  obtain ⟨d, e, rfl, rfl, h⟩ := two_inv hh
  obtain ⟨v, w, rfl, r1, r2⟩ := Reps2 rs
  obtain ⟨y, ey, q⟩ := some3_inv h
  cases r2
  refine call_isi pins s σ H _ us Q I rx ⟨_, _, _, _, isTy y t, rfl, .ty t, tyX_ok hr r1 ey, kit_ty (kit_all y (tyName_in ey) t ht), L.here hr (.bl _) ?_⟩
  simpa using q
theorem le_isi1 {t : String} {x y : Str} {p p1 : Pos} (ht : t ∈ askTy) (hx : x = Str.ofString "isinstance") (hy : y = Str.ofString t) (ha : PE X a (lift X.K ta)) (hg : Gl X x) (hm : X.mg x = none) (hgy : Gl X y) (hmy : X.mg y = none)
    (hv : bootBuiltins x = some (.builtin "isinstance")) (hvy : bootBuiltins y = some (.type t)) (hn : x ≠ "__name__") (hdb : (x == ("__debug__" : Str)) = false) (hny : y ≠ "__name__") (hdby : (y == ("__debug__" : Str)) = false)
    (he : starEach [a, .Name y p1] X.env = (false, eval a X.env) :: starEach [.Name y p1] X.env) :
    PE X (.Call (.Name x p) [a, .Name y p1] [] pos) (lift X.K fun τ M Q => ta τ M fun d M1 => some3 (tyName d M1) fun z => Q (.bl ([t].any fun T => isTy z T)) M1) := by
  have hty : PE X (.Name y p1) (lift X.K fun τ M Q => Q (.ty t) M) := PEw (pe_bltn hgy hmy hvy (v := .ty t) rfl hny hdby) fun σ H Q h => by
    obtain ⟨τ, M, Q3, hr, sl, h, L⟩ := h
    exact L.here hr (.ty t) h
  refine PEw (le_bi (r := fun ds M Q => two ds fun d e => e = .ty t ∧ some3 (tyName d M) fun y => Q (.bl ([t].any fun T => isTy y T)) M) (isi1_ok ht) hg hm hv (la_cons ha (la_cons hty la_nil rfl) he) hn hdb he rfl) fun σ H Q h => ?_
  obtain ⟨τ, M, Q3, hr, sl, h, L⟩ := h
  exact ⟨τ, M, Q3, hr, sl, (show ta τ M _ from by simpa [two] using h), L⟩
end
end G3
set_option Elab.async false
set_option linter.all false
set_option maxRecDepth 100000
set_option maxHeartbeats 4000000
/-! enumerate(tuple), lists or tuples -/
namespace PySem
open Sem (wp)
open AutoSeq1 (wpAny_loadPart')
theorem g3_meets_enum_newT (l : Addr) (items : Array Value) (n : Nat) (dct : Option Addr) (sl : Array (Option Value)) :
    Meets (Builtin.«enumerate.__new__» ⟨[.type "enumerate", .ref l], []⟩) (fun _ R s => s.heap.get? l = some { cls := .type "tuple", dict := dct, data := .seq items n, slots := sl } ∧
      R (.ok (.ret (.ref (s.heap.push { cls := .type "tuple_iterator", data := .fields #[.ref l, .int 0 0] }).objs.size)))
        { s with heap := (s.heap.push { cls := .type "tuple_iterator", data := .fields #[.ref l, .int 0 0] }).push { cls := .type "enumerate", data := .fields #[.none, .bool false, .ref s.heap.objs.size, rawInt 0, .none, .none] } }) :=
  .of_wp fun prog w A R s h => by
    obtain ⟨hp, g, d, tk, os⟩ := s; obtain ⟨hl, h⟩ := h
    have hsub := sub_enumerate
    have hL : Heap.IsTuple (Shared.heap ⟨hp, g, d, tk, os⟩) l items := ⟨_, hl, rfl, n, rfl⟩
    wp_walk using wpAny_loadPart' hl
    refine wpAny_stack_any fun st => wpAny_pure ?_
    split
    · rename_i c _ _ _ _ _
      cases (c == Value.type "enumerate")
      · wp_walk using wpAny_loadPart' hl, wpAny_pyIter_tuple hL
        exact ⟨_, rfl, h⟩
      · wp_walk using wpAny_loadPart' hl, wpAny_pyIter_tuple hL
        exact ⟨_, rfl, h⟩
    · wp_walk using wpAny_loadPart' hl, wpAny_pyIter_tuple hL
      exact ⟨_, rfl, h⟩
section
variable {prog : Program} {w : World} {A : Around} {E : Value → Shared → Prop} {s : Shared}
theorem g3_call_enum_tuple {l : Addr} {items : Array Value} {Q : Value → Shared → Prop} (hL : s.heap.IsTuple l items)
    (h : ∀ h', IsEnum h' (s.heap.objs.size + 1) s.heap.objs.size 0 .none → h'.IsTupleIter s.heap.objs.size l 0 → h'.objs.size = s.heap.objs.size + 2 →
      (∀ b o, s.heap.get? b = some o → h'.get? b = some o) → Q (.ref (s.heap.objs.size + 1)) { s with heap := h' }) :
    wpAny (model prog w) A (call (.type "enumerate") [.ref l]) Q E s := by
  obtain ⟨⟨c, dct, dt, sl⟩, hl, hc, n, hd⟩ := hL
  replace hc : c = .type "tuple" := hc
  replace hd : dt = .seq items n := hd
  subst hc hd
  refine callType_new F.called_enumerate (by decide) (F.typeCall_enumerate_1 _) (F.newCall_enumerate_1 _) (fun obj => F.args_object_init_2 obj _) F.entry_enumerate_new
    (g3_meets_enum_newT l items n dct sl) ⟨hl, ?_⟩
  have hz : (s.heap.push { cls := .type "tuple_iterator", data := .fields #[.ref l, .int 0 0] }).objs.size = s.heap.objs.size + 1 := Heap.size_push ..
  show _ ∧ _
  rw [hz]
  have he : IsEnum ((s.heap.push { cls := .type "tuple_iterator", data := .fields #[.ref l, .int 0 0] }).push
      { cls := .type "enumerate", data := .fields #[.none, .bool false, .ref s.heap.objs.size, rawInt 0, .none, .none] }) (s.heap.objs.size + 1) s.heap.objs.size 0 .none := by
    have := Heap.get?_push_size (s.heap.push { cls := .type "tuple_iterator", data := .fields #[.ref l, .int 0 0] })
      (o := { cls := .type "enumerate", data := .fields #[.none, .bool false, .ref s.heap.objs.size, rawInt 0, .none, .none] }) rfl
    rw [hz] at this; exact this
  refine ⟨⟨_, he, rfl⟩, h _ he ⟨_, Heap.get?_push_of_some _ (Heap.get?_push_size _ rfl), rfl, rfl⟩ (by rw [Heap.size_push, hz]) fun b o x => Heap.get?_push_of_some _ (Heap.get?_push_of_some _ x)⟩
/-- a tuple's iterator draws its items -/
theorem g3_draws_tuple {it t : Addr} {items : Array Value} (hne : it ≠ t) (hh : A.handled = none) : Draws prog w A it [it, t] items.size (fun i x => items[i]? = some x) (fun i h => h.IsTupleIter it t i ∧ h.IsTuple t items) where
  live := fun i h ⟨⟨o, ho, _⟩, _⟩ => ⟨o, ho⟩
  frame := fun i h h' ⟨⟨o, ho, r⟩, ⟨o', ho', r'⟩⟩ k => ⟨⟨o, k it (by simp) o ho, r⟩, ⟨o', k t (by simp) o' ho', r'⟩⟩
  item := fun i s Q E hi ⟨st, ht⟩ hQ => by
    have hx : items[i]? = some items[i] := by simp [hi]
    refine RZ.nextOf_tuple_item st ht hx fun h' hit' hs' => ?_
    exact hQ _ h' s.toks hx ⟨hit', let ⟨o', ho', r'⟩ := ht; ⟨o', (hs'.2 t (Ne.symm hne)).trans ho', r'⟩⟩ hs'
  done := fun s Q E ⟨st, ht⟩ hE => RZ.nextOf_tuple_end hh st ht (by simp) hE
theorem g3_draws_end {it t : Addr} {items : Array Value} {n : Nat} (hh : A.handled = none) (hn : items[n]? = none) : Draws prog w A it [it, t] n (fun _ _ => False) (fun i h => h.IsTupleIter it t i ∧ h.IsTuple t items ∧ i = n) where
  live := fun i h ⟨⟨o, ho, _⟩, _⟩ => ⟨o, ho⟩
  frame := fun i h h' ⟨⟨o, ho, r⟩, ⟨o', ho', r'⟩, e⟩ k => ⟨⟨o, k it (by simp) o ho, r⟩, ⟨o', k t (by simp) o' ho', r'⟩, e⟩
  item := fun i s Q E hi ⟨_, _, e⟩ _ => absurd e (Nat.ne_of_lt hi)
  done := fun s Q E ⟨st, ht, _⟩ hE => RZ.nextOf_tuple_end hh st ht hn hE
end
end PySem
namespace G3
open PySem PySem.Spec PyProof.Rows L2
/-- the tuple at a, each item in a new pair with its index -/
def IteT (K : PySem.W.Frag) (a : Addr) : It :=
  ⟨fun i H => ∃ (xs : List V) (x : V), SqT K H a xs ∧ xs[i]? = some x, fun i H v H' => ∃ T x, v = .ref T ∧ H T = none ∧ H' = upd H T (.tup [.int (i : Nat), x]) ∧ ∀ xs, SqT K H a xs → xs[i]? = some x, fun i H => ∃ xs : List V, SqT K H a xs ∧ xs.length ≤ i⟩
theorem turn_enumT {P : Program} {w : World} {K : PySem.W.Frag} {elts : List Expr} {kk : Nat} {tpos : Pos} (a e it : Addr) (hea : e ≠ a) (hia : it ≠ a) :
    Turn P w K (.Tuple elts kk tpos) (IteT K a) [e, it] e (fun i h => (∃ old, IsEnum h e it ((i : Nat) : Int) old) ∧ h.IsTupleIter it a i ∧ e ≠ it) where
  mem := by simp
  obj := fun i h st b hb => by
    obtain ⟨⟨old, he⟩, ⟨o, ho, hc, hd⟩, _⟩ := st
    have e' : b = e ∨ b = it := by simpa using hb
    rcases e' with z | z
    · rw [z]; exact ⟨_, he, fun v q => nomatch q⟩
    · rw [z]; exact ⟨o, ho, fun v q => by rw [hd] at q; cases q⟩
  keep := fun i h h' st k => let ⟨⟨old, he⟩, hi, hne⟩ := st; ⟨⟨old, k e (by simp) _ he⟩, hi.at fun o q => k it (by simp) o q, hne⟩
  item := by
    intro X hP hw hK hc i pins s σ H E I hf st hg
    subst hP hw hK
    obtain ⟨⟨old, he⟩, hit, hne⟩ := st
    obtain ⟨xs, x, hq, hx⟩ := hg
    obtain ⟨its, rv, p, hz⟩ := I.tuple hq
    obtain ⟨u, hu, ru⟩ := rv.get hx
    have hel : e < s.heap.objs.size := Heap.lt_size he
    have hil : it < s.heap.objs.size := by obtain ⟨_, q, _⟩ := hit; exact Heap.lt_size q
    have hlt : i < its.toArray.size := by
      rw [List.size_toArray, ← rv.length]
      exact (List.getElem?_eq_some_iff.mp hx).1
    have hfp : e ∉ [it, a] := by simp [hne, hea]
    refine wpAny_pyNext_enum_itemD (g3_draws_tuple (A := X.A.in1) hia (I.ok.hd hc)) he ⟨hit, p⟩ hlt hne hfp fun u' h' tk hPx ho hst hT hsz hk => ?_
    have eu : u' = u := by
      have h1 : its.toArray[i]? = some u := by simpa using hu
      rw [h1] at hPx
      exact (Option.some.inj hPx).symm
    subst eu
    obtain ⟨hit', _⟩ := hst
    refine ⟨_, rfl, wpAny_letOwnedTupleGo_enum (s := { s with heap := h', toks := tk + 1 }) ho fun h'' he' sb => ?_⟩
    have hT2 : h''.get? s.heap.objs.size = some { cls := .type "tuple", data := .seq #[.int i tk, u'] } := (sb.2 _ (Nat.ne_of_gt hel)).trans hT
    have new : ObjOk X.prog X.w (upd H s.heap.objs.size (.tup [.int (i : Nat), x])) h'' s.heap.objs.size (.tup [.int (i : Nat), x]) :=
      ⟨by show 2 ≤ sizeLine; decide, [.int i tk, u'], .cons ⟨_, rfl⟩ (.cons ru .nil), ⟨_, hT2, rfl, _, rfl⟩⟩
    have I1 : Inv X pins σ (upd H s.heap.objs.size (.tup [.int (i : Nat), x])) { s with heap := h'', toks := tk + 1 } :=
      I.turnedNew (ch := [e, it]) (fun b ob hb q => (sb.2 b (fun z => hb (by simp [z]))).trans (hk b ob (fun z => hb (by simp [z])) (fun z => hb (by simp [z])) q)) hf (Nat.le_refl _) new
    refine ⟨.ref s.heap.objs.size, _, I1, rfl, ⟨_, x, rfl, I.hok.fresh (Nat.le_refl _), rfl, fun ys hy => by rw [I.tuple_inj hy hq]; exact hx⟩, ⟨⟨u', ?_⟩, hit'.at fun o q => (sb.2 it (Ne.symm hne)).trans q, hne⟩, fun b hb => ?_⟩
    · have e1 : ((i + 1 : Nat) : Int) = (i : Int) + 1 := by omega
      rw [e1]; exact he'
    · have hb' : b < s.heap.objs.size := by
        have e' : b = e ∨ b = it := by simpa using hb
        rcases e' with z | z
        · rw [z]; exact hel
        · rw [z]; exact hil
      rw [upd_ne (Nat.ne_of_lt hb')]
      exact (hf b hb).1
  done := by
    intro X hP hw hK hc i pins s σ H E I hf st hg
    subst hP hw hK
    obtain ⟨⟨old, he⟩, hit, hne⟩ := st
    obtain ⟨xs, hq, hx⟩ := hg
    obtain ⟨its, rv, p, hz⟩ := I.tuple hq
    obtain ⟨f0, f1, f2, f3, f4, f5⟩ := hf it (by simp)
    have hl := rv.length
    exact wpAny_pyNext_enum_endD (n := i) (g3_draws_end (A := X.A.in1) (items := its.toArray) (I.ok.hd hc) (by simp; omega)) he ⟨hit, p, rfl⟩ fun h' eb => ⟨rfl, I.turned (t' := s.toks) (fun b o hb q => eb b o hb q) f0 f1 f3 f4 f5⟩
  self := fun A i s Q E st h => let ⟨⟨_, he⟩, _⟩ := st; wpAny_pyIter_enum he h
def iEnumA (K : PySem.W.Frag) (ta : TA) : TI := fun σ H R => ta σ H fun vs H1 => ∃ a xs, vs = [.ref a] ∧ ((SqL K H1 a xs ∧ R (Ite K a) H1) ∨ (SqT K H1 a xs ∧ R (IteT K a) H1))
theorem pi_enumA {X : Cx} {e : Expr} {ta : TA} {p pos tpos : Pos} {elts : List Expr} {kk : Nat} (hg : Gl X "enumerate") (hm : X.mg "enumerate" = none) (ha : PA X [e] ta) (hs : starEach [e] X.env = [(false, eval e X.env)] := by rfl) :
    PI X (.Tuple elts kk tpos) (.Call (.Name "enumerate" p) [e] [] pos) (iEnumA X.K ta) := by
  refine ⟨fun pins s σ H R I h => ?_⟩
  refine Call_ (ld_blt I hg hm boot_enumerate (PyProof.Rows.callWith_type1 (thn (ha.run pos pins s σ H _ I h) fun us s1 ⟨vs, H1, I1, r1, q1⟩ => ?_) hs rfl))
  obtain ⟨a, xs, ex, q1⟩ := q1
  subst ex
  cases r1 with
  | cons r rr =>
    cases rr
    cases r
    have fresh : ∀ b, b ∈ [s1.heap.objs.size + 1, s1.heap.objs.size] → FpOk X pins H1 b := fun b hb => by
      have e' : b = s1.heap.objs.size + 1 ∨ b = s1.heap.objs.size := by simpa using hb
      have hle : s1.heap.objs.size ≤ b := by
        rcases e' with z | z
        · rw [z]; exact Nat.le_add_right _ _
        · rw [z]; exact Nat.le_refl _
      exact I1.fpOk hle (I1.hok.fresh hle)
    rcases q1 with ⟨hq, q⟩ | ⟨hq, q⟩
    · obtain ⟨its, rv, p', hz⟩ := I1.list hq
      refine call_enumerate_list p'.isList fun h' he hit hsz hk => wpAny_pyIter_enum he ?_
      have I2 : Inv X pins σ H1 { s1 with heap := h' } := I1.kept (t' := s1.toks) hk
      exact ⟨s1.heap.objs.size + 1, [s1.heap.objs.size + 1, s1.heap.objs.size], _, _, H1, rfl, I2, turn_enum a (s1.heap.objs.size + 1) s1.heap.objs.size, ⟨⟨.none, he⟩, hit, Nat.succ_ne_self _⟩, fresh, q⟩
    · obtain ⟨its, rv, p', hz⟩ := I1.tuple hq
      obtain ⟨o1, ho1, _⟩ := id p'
      have hlt := Heap.lt_size ho1
      refine g3_call_enum_tuple (show s1.heap.IsTuple a its.toArray from p') fun h' he hit hsz hk => wpAny_pyIter_enum he ?_
      have I2 : Inv X pins σ H1 { s1 with heap := h' } := I1.kept (t' := s1.toks) hk
      exact ⟨s1.heap.objs.size + 1, [s1.heap.objs.size + 1, s1.heap.objs.size], _, _, H1, rfl, I2, turn_enumT a (s1.heap.objs.size + 1) s1.heap.objs.size (Nat.ne_of_gt (Nat.lt_succ_of_lt hlt)) (Nat.ne_of_gt hlt), ⟨⟨.none, he⟩, hit, Nat.succ_ne_self _⟩, fresh, q⟩
end G3
set_option Elab.async false
set_option linter.all false
set_option maxRecDepth 100000
set_option maxHeartbeats 4000000
/-! zip over lists and tuples, two or three -/
namespace PySem
open Sem (wp)
open PySem.Spec
/-- k: a tuple, else a list -/
def IsSeqK (k : Bool) (h : Heap) (l : Addr) (xs : Array Value) : Prop := match k with
  | true => h.IsTuple l xs
  | false => h.IsList l xs
def IsIterK (k : Bool) (h : Heap) (it l : Addr) (i : Nat) : Prop := match k with
  | true => h.IsTupleIter it l i
  | false => h.IsListIter it l i
def itClsK (k : Bool) : String := match k with
  | true => "tuple_iterator"
  | false => "list_iterator"
theorem IsSeqK.live {k : Bool} {h : Heap} {l : Addr} {xs : Array Value} (s : IsSeqK k h l xs) : ∃ o, h.get? l = some o := by
  cases k with
  | true => obtain ⟨o, ho, _⟩ := (show h.IsTuple l xs from s); exact ⟨o, ho⟩
  | false => obtain ⟨o, ho, _⟩ := (show h.IsList l xs from s); exact ⟨o, ho⟩
theorem IsSeqK.at {k : Bool} {h h' : Heap} {l : Addr} {xs : Array Value} (s : IsSeqK k h l xs) (e : ∀ o, h.get? l = some o → h'.get? l = some o) : IsSeqK k h' l xs := by
  cases k with
  | true => obtain ⟨o, ho, r⟩ := (show h.IsTuple l xs from s); exact ⟨o, e o ho, r⟩
  | false => obtain ⟨o, ho, r⟩ := (show h.IsList l xs from s); exact ⟨o, e o ho, r⟩
theorem IsIterK.live {k : Bool} {h : Heap} {it l : Addr} {i : Nat} (s : IsIterK k h it l i) : ∃ o, h.get? it = some o ∧ ∀ v, o.data ≠ .cell v := by
  cases k with
  | true => obtain ⟨o, ho, _, hd⟩ := (show h.IsTupleIter it l i from s); exact ⟨o, ho, fun v q => by rw [hd] at q; cases q⟩
  | false => obtain ⟨o, ho, _, hd⟩ := (show h.IsListIter it l i from s); exact ⟨o, ho, fun v q => by rw [hd] at q; cases q⟩
theorem IsIterK.at {k : Bool} {h h' : Heap} {it l : Addr} {i : Nat} (s : IsIterK k h it l i) (e : ∀ o, h.get? it = some o → h'.get? it = some o) : IsIterK k h' it l i := by
  cases k with
  | true => obtain ⟨o, ho, r⟩ := (show h.IsTupleIter it l i from s); exact ⟨o, e o ho, r⟩
  | false => obtain ⟨o, ho, r⟩ := (show h.IsListIter it l i from s); exact ⟨o, e o ho, r⟩
section
variable {prog : Program} {w : World} {A : Around} {E : Value → Shared → Prop} {s : Shared}
theorem wpAny_pyIter_K {k : Bool} {l : Addr} {xs : Array Value} {Q : Value → Shared → Prop} (hl : IsSeqK k s.heap l xs)
    (hQ : Q (.ref s.heap.objs.size) { s with heap := s.heap.push { cls := .type (itClsK k), data := .fields #[.ref l, .int 0 0] } }) : wpAny (model prog w) A (pyIter (.ref l)) Q E s := by
  cases k with
  | true => exact wpAny_pyIter_tuple hl hQ
  | false => exact wpAny_pyIter_list hl hQ
theorem drawsK {k : Bool} {it l : Addr} {items : Array Value} (hne : it ≠ l) (hh : A.handled = none) : Draws prog w A it [it, l] items.size (fun i x => items[i]? = some x) (fun i h => IsIterK k h it l i ∧ IsSeqK k h l items) := by
  cases k with
  | true => exact g3_draws_tuple hne hh
  | false => exact Draws.list hh it l (Ne.symm hne) items
abbrev zkH1 (h : Heap) (k1 : Bool) (l1 : Addr) : Heap := h.push { cls := .type (itClsK k1), data := .fields #[.ref l1, .int 0 0] }
abbrev zkH2 (h : Heap) (k1 k2 : Bool) (l1 l2 : Addr) : Heap := (zkH1 h k1 l1).push { cls := .type (itClsK k2), data := .fields #[.ref l2, .int 0 0] }
abbrev zkH3 (h : Heap) (k1 k2 : Bool) (l1 l2 : Addr) : Heap := (zkH2 h k1 k2 l1 l2).push { cls := .type "tuple", data := .seq #[.ref h.objs.size, .ref (zkH1 h k1 l1).objs.size] }
abbrev zkH4 (h : Heap) (k1 k2 : Bool) (l1 l2 : Addr) : Heap := (zkH3 h k1 k2 l1 l2).push { cls := .type "tuple", data := .seq #[.none, .none] }
abbrev zkH5 (h : Heap) (k1 k2 : Bool) (l1 l2 : Addr) : Heap := (zkH4 h k1 k2 l1 l2).push { cls := .type "zip", data := .fields #[.none, .bool false, .bool false, .ref (zkH2 h k1 k2 l1 l2).objs.size, .ref (zkH3 h k1 k2 l1 l2).objs.size] }
theorem meets_zipK_new (k1 k2 : Bool) (l1 l2 : Addr) (xs ys : Array Value) :
    Meets (Builtin.«zip.__new__» ⟨[.type "zip", .ref l1, .ref l2], []⟩) (fun _ R s => IsSeqK k1 s.heap l1 xs ∧ IsSeqK k2 s.heap l2 ys ∧
      R (.ok (.ret (.ref (zkH4 s.heap k1 k2 l1 l2).objs.size))) { s with heap := zkH5 s.heap k1 k2 l1 l2 }) :=
  .of_wp fun prog w A R s h => by
    obtain ⟨hp, g, d, tk, os⟩ := s; obtain ⟨hl1, hl2, h⟩ := h
    have hsub := sub_zip
    have hL1 : IsSeqK k1 (Shared.heap ⟨hp, g, d, tk, os⟩) l1 xs := hl1
    have hL2 : IsSeqK k2 (Shared.heap ⟨hp.push { cls := .type (itClsK k1), data := .fields #[.ref l1, .int 0 0] }, g, d, tk, os⟩) l2 ys := IsSeqK.at hl2 fun o e => Heap.get?_push_of_some _ e
    wp_walk using wpAny_pyIter_K hL1, wpAny_pyIter_K hL2
    exact ⟨_, rfl, h⟩
theorem isIterK_new {k : Bool} {h : Heap} {it l : Addr} (e : h.get? it = some { cls := .type (itClsK k), data := .fields #[.ref l, .int 0 0] }) : IsIterK k h it l 0 := by
  cases k with
  | true => exact ⟨_, e, rfl, rfl⟩
  | false => exact ⟨_, e, rfl, rfl⟩
theorem call_zipK {k1 k2 : Bool} {l1 l2 : Addr} {xs ys : Array Value} {Q : Value → Shared → Prop} (hl1 : IsSeqK k1 s.heap l1 xs) (hl2 : IsSeqK k2 s.heap l2 ys)
    (h : ∀ h', IsZip h' (s.heap.objs.size + 4) (s.heap.objs.size + 2) (s.heap.objs.size + 3) .none → IsTupOf2 h' (s.heap.objs.size + 2) (.ref s.heap.objs.size) (.ref (s.heap.objs.size + 1)) →
      IsTupOf2 h' (s.heap.objs.size + 3) .none .none → IsIterK k1 h' s.heap.objs.size l1 0 → IsIterK k2 h' (s.heap.objs.size + 1) l2 0 → h'.objs.size = s.heap.objs.size + 5 →
      (∀ c o, s.heap.get? c = some o → h'.get? c = some o) → Q (.ref (s.heap.objs.size + 4)) { s with heap := h' }) :
    wpAny (model prog w) A (call (.type "zip") [.ref l1, .ref l2]) Q E s := by
  refine callType_new F.called_zip (by decide) (F.typeCall_zip_2 _ _) (F.newCall_zip_2 _ _) (fun obj => F.args_object_init_3 obj _ _) F.entry_zip_new
    (meets_zipK_new k1 k2 l1 l2 xs ys) ⟨hl1, hl2, ?_⟩
  have z1 : (zkH1 s.heap k1 l1).objs.size = s.heap.objs.size + 1 := Heap.size_push ..
  have z2 : (zkH2 s.heap k1 k2 l1 l2).objs.size = s.heap.objs.size + 2 := by rw [Heap.size_push, z1]
  have z3 : (zkH3 s.heap k1 k2 l1 l2).objs.size = s.heap.objs.size + 3 := by rw [Heap.size_push, z2]
  have z4 : (zkH4 s.heap k1 k2 l1 l2).objs.size = s.heap.objs.size + 4 := by rw [Heap.size_push, z3]
  have z5 : (zkH5 s.heap k1 k2 l1 l2).objs.size = s.heap.objs.size + 5 := by rw [Heap.size_push, z4]
  have g5 : (zkH5 s.heap k1 k2 l1 l2).get? (zkH4 s.heap k1 k2 l1 l2).objs.size = some _ := Heap.get?_push_size _ rfl
  have g4 : (zkH5 s.heap k1 k2 l1 l2).get? (zkH3 s.heap k1 k2 l1 l2).objs.size = some _ := Heap.get?_push_of_some _ (Heap.get?_push_size _ rfl)
  have g3 : (zkH5 s.heap k1 k2 l1 l2).get? (zkH2 s.heap k1 k2 l1 l2).objs.size = some _ := Heap.get?_push_of_some _ (Heap.get?_push_of_some _ (Heap.get?_push_size _ rfl))
  have g2 : (zkH5 s.heap k1 k2 l1 l2).get? (zkH1 s.heap k1 l1).objs.size = some _ := Heap.get?_push_of_some _ (Heap.get?_push_of_some _ (Heap.get?_push_of_some _ (Heap.get?_push_size _ rfl)))
  have g1 : (zkH5 s.heap k1 k2 l1 l2).get? s.heap.objs.size = some _ := Heap.get?_push_of_some _ (Heap.get?_push_of_some _ (Heap.get?_push_of_some _ (Heap.get?_push_of_some _ (Heap.get?_push_size _ rfl))))
  show _ ∧ _
  rw [z2, z3, z4] at g5
  rw [z1, z2] at g3
  rw [z3] at g4
  rw [z1] at g2
  rw [z4]
  exact ⟨⟨_, g5, rfl⟩, h _ g5 g3 g4 (isIterK_new g1) (isIterK_new g2) z5 fun c o x =>
    Heap.get?_push_of_some _ (Heap.get?_push_of_some _ (Heap.get?_push_of_some _ (Heap.get?_push_of_some _ (Heap.get?_push_of_some _ x))))⟩
end
end PySem
namespace G3
open PySem PySem.Spec PyProof.Rows L2
def SqK (K : PySem.W.Frag) (H : Hp) (k : Bool) (a : Addr) (xs : List V) : Prop := match k with
  | true => SqT K H a xs
  | false => SqL K H a xs
theorem inv_seqK {X : Cx} {pins : List (Addr × Obj)} {σ : L2.St} {H : Hp} {s : Shared} (I : L2.Inv X pins σ H s) {k : Bool} {a : Addr} {xs : List V} (h : SqK X.K H k a xs) : ∃ its : List Value, Vals xs its ∧ IsSeqK k s.heap a its.toArray := by
  cases k with
  | true => obtain ⟨its, rv, p, _⟩ := I.tuple (show SqT X.K H a xs from h); exact ⟨its, rv, p⟩
  | false => obtain ⟨its, rv, p, _⟩ := I.list (show SqL X.K H a xs from h); exact ⟨its, rv, p.isList⟩
theorem inv_seqK_inj {X : Cx} {pins : List (Addr × Obj)} {σ : L2.St} {H : Hp} {s : Shared} (I : L2.Inv X pins σ H s) {k : Bool} {a : Addr} {xs ys : List V} (h : SqK X.K H k a xs) (h' : SqK X.K H k a ys) : xs = ys := by
  cases k with
  | true => exact I.tuple_inj h h'
  | false => exact I.list_inj h h'
def ItzK (K : PySem.W.Frag) (k1 k2 : Bool) (a b : Addr) : It :=
  ⟨fun i H => ∃ (xs ys : List V) (x y : V), SqK K H k1 a xs ∧ SqK K H k2 b ys ∧ xs[i]? = some x ∧ ys[i]? = some y,
    fun i H v H' => ∃ T x y, v = .ref T ∧ H T = none ∧ H' = upd H T (.tup [x, y]) ∧ (∀ xs, SqK K H k1 a xs → xs[i]? = some x) ∧ ∀ ys, SqK K H k2 b ys → ys[i]? = some y,
    fun i H => ∃ xs ys : List V, SqK K H k1 a xs ∧ SqK K H k2 b ys ∧ i = min xs.length ys.length⟩
theorem turn_zipK {P : Program} {w : World} {K : PySem.W.Frag} {elts : List Expr} {kk : Nat} {tpos : Pos} {k1 k2 : Bool} {a b z TI TO i1 i2 : Addr} (D : ZipSep2 z TI TO i1 i2 [i1, a] [i2, b]) (n1 : i1 ≠ a) (n2 : i2 ≠ b) :
    Turn P w K (.Tuple elts kk tpos) (ItzK K k1 k2 a b) [z, TI, TO, i1, i2] z (fun i h => IsZip h z TI TO .none ∧ IsTupOf2 h TI (.ref i1) (.ref i2) ∧ (∃ x y, IsTupOf2 h TO x y) ∧ IsIterK k1 h i1 a i ∧ IsIterK k2 h i2 b i) where
  mem := by simp
  obj := fun i h st c hc => by
    obtain ⟨hz, hTI, ⟨x, y, hTO⟩, h1, h2⟩ := st
    have e' : c = z ∨ c = TI ∨ c = TO ∨ c = i1 ∨ c = i2 := by simpa using hc
    rcases e' with q | q | q | q | q
    · rw [q]; exact ⟨_, hz, fun v q => nomatch q⟩
    · rw [q]; exact ⟨_, hTI, fun v q => nomatch q⟩
    · rw [q]; exact ⟨_, hTO, fun v q => nomatch q⟩
    · rw [q]; obtain ⟨o, ho, hd⟩ := h1.live; exact ⟨o, ho, hd⟩
    · rw [q]; obtain ⟨o, ho, hd⟩ := h2.live; exact ⟨o, ho, hd⟩
  keep := fun i h h' st k => by
    obtain ⟨hz, hTI, ⟨x, y, hTO⟩, h1, h2⟩ := st
    exact ⟨k z (by simp) _ hz, k TI (by simp) _ hTI, ⟨x, y, k TO (by simp) _ hTO⟩, h1.at fun o q => k i1 (by simp) o q, h2.at fun o q => k i2 (by simp) o q⟩
  item := by
    intro X hP hw hK hc i pins s σ H E I hf st hg
    subst hP hw hK
    obtain ⟨hz, hTI, ⟨x0, y0, hTO⟩, h1, h2⟩ := st
    obtain ⟨xs, ys, x, y, hqx, hqy, hx, hy⟩ := hg
    obtain ⟨its, rv, p⟩ := inv_seqK I hqx
    obtain ⟨its2, rv2, p2⟩ := inv_seqK I hqy
    obtain ⟨u, hu, ru⟩ := rv.get hx
    obtain ⟨u2, hu2, ru2⟩ := rv2.get hy
    have hzl : z < s.heap.objs.size := Heap.lt_size hz
    have l1 : i < its.toArray.size := by rw [List.size_toArray, ← rv.length]; exact (List.getElem?_eq_some_iff.mp hx).1
    have l2 : i < its2.toArray.size := by rw [List.size_toArray, ← rv2.length]; exact (List.getElem?_eq_some_iff.mp hy).1
    refine wpAny_pyNext_zipD2_item D (drawsK (A := X.A.in1) n1 (I.ok.hd hc)) (drawsK (A := X.A.in1) n2 (I.ok.hd hc)) hz hTI hTO ⟨h1, p⟩ ⟨h2, p2⟩ l1 l2 fun u' u2' h' tk hP1 hP2 z' TO' st1 st2 hT hsz hk => ?_
    obtain ⟨h1', _⟩ := st1
    obtain ⟨h2', _⟩ := st2
    have eu : u' = u := by
      have e1 : its.toArray[i]? = some u := by simpa using hu
      rw [e1] at hP1; exact (Option.some.inj hP1).symm
    have eu2 : u2' = u2 := by
      have e1 : its2.toArray[i]? = some u2 := by simpa using hu2
      rw [e1] at hP2; exact (Option.some.inj hP2).symm
    subst eu eu2
    refine ⟨_, rfl, wpAny_letOwnedTupleGo_zip (s := { s with heap := h', toks := tk }) z' fun h'' z'' sb => ?_⟩
    have hT2 : h''.get? s.heap.objs.size = some { cls := .type "tuple", data := .seq #[u', u2'] } := (sb.2 _ (Nat.ne_of_gt hzl)).trans hT
    have new : ObjOk X.prog X.w (upd H s.heap.objs.size (.tup [x, y])) h'' s.heap.objs.size (.tup [x, y]) :=
      ⟨by show 2 ≤ sizeLine; decide, [u', u2'], .cons ru (.cons ru2 .nil), ⟨_, hT2, rfl, _, rfl⟩⟩
    have I1 : Inv X pins σ (upd H s.heap.objs.size (.tup [x, y])) { s with heap := h'', toks := tk } :=
      I.turnedNew (t' := tk) (ch := [z, TI, TO, i1, i2]) (fun c o hb q => (sb.2 c (fun q' => hb (by simp [q']))).trans (hk c o (fun q' => hb (by simp [q'])) (fun q' => hb (by simp [q'])) (fun q' => hb (by simp [q'])) (fun q' => hb (by simp [q'])) q)) hf (Nat.le_refl _) new
    refine ⟨.ref s.heap.objs.size, _, I1, rfl, ⟨_, x, y, rfl, I.hok.fresh (Nat.le_refl _), rfl, fun l hl => by rw [inv_seqK_inj I hl hqx]; exact hx, fun l hl => by rw [inv_seqK_inj I hl hqy]; exact hy⟩, ⟨z'', ?_, ⟨u', u2', ?_⟩, ?_, ?_⟩, fun c hcm => ?_⟩
    · exact (sb.2 _ D.TIz).trans (hk _ _ D.TIz D.TITO D.TIi1 D.TIi2 hTI)
    · exact (sb.2 _ D.TOz).trans TO'
    · exact h1'.at fun o q => (sb.2 _ (Ne.symm D.zi1)).trans q
    · exact h2'.at fun o q => (sb.2 _ (Ne.symm D.zi2)).trans q
    · have hlt : c < s.heap.objs.size := by
        have e' : c = z ∨ c = TI ∨ c = TO ∨ c = i1 ∨ c = i2 := by simpa using hcm
        rcases e' with q | q | q | q | q
        · rw [q]; exact hzl
        · rw [q]; exact Heap.lt_size hTI
        · rw [q]; exact Heap.lt_size hTO
        · rw [q]; obtain ⟨_, e1, _⟩ := h1.live; exact Heap.lt_size e1
        · rw [q]; obtain ⟨_, e2, _⟩ := h2.live; exact Heap.lt_size e2
      rw [upd_ne (Nat.ne_of_lt hlt)]
      exact (hf c hcm).1
  done := by
    intro X hP hw hK hc i pins s σ H E I hf st hg
    subst hP hw hK
    obtain ⟨hz, hTI, ⟨x0, y0, hTO⟩, h1, h2⟩ := st
    obtain ⟨xs, ys, hqx, hqy, hend⟩ := hg
    obtain ⟨its, rv, p⟩ := inv_seqK I hqx
    obtain ⟨its2, rv2, p2⟩ := inv_seqK I hqy
    have l1 := rv.length
    have l2 := rv2.length
    exact wpAny_pyNext_zipD2_end D (drawsK (A := X.A.in1) n1 (I.ok.hd hc)) (drawsK (A := X.A.in1) n2 (I.ok.hd hc)) hz hTI hTO ⟨h1, p⟩ ⟨h2, p2⟩ (by rw [List.size_toArray]; omega) (by rw [List.size_toArray]; omega) (by rw [List.size_toArray, List.size_toArray]; omega) fun h' tk hk => ⟨rfl, I.turnedL (t' := tk) (ch := [z, TI, TO, i1, i2]) (fun c o hb q =>
      hk c o (fun q' => hb (by simp [q'])) (fun q' => hb (by simp [q'])) (fun q' => hb (by simp [q'])) (fun q' => hb (by simp [q'])) q) hf⟩
  self := fun A i s Q E st h => wpAny_pyIter_zip st.1 h
end G3
namespace G3
open PySem PySem.Spec PyProof.Rows L2
theorem zsep2 {n a b : Nat} (la : a < n) (lb : b < n) : ZipSep2 (n + 4) (n + 2) (n + 3) n (n + 1) [n, a] [n + 1, b] := by
  have ne : ∀ {x y : Nat}, x ≠ y → ¬ (@Eq Addr x y) := fun h => h
  have nm : ∀ {x y z : Nat}, x ≠ y → x ≠ z → ¬ (@Membership.mem Addr (List Addr) _ [y, z] x) := fun {x y z} h1 h2 h => by
    rcases List.mem_cons.mp h with h | h
    · exact h1 h
    · exact h2 (List.mem_singleton.mp h)
  exact ⟨ne (by omega), ne (by omega), ne (by omega), ne (by omega), List.mem_cons_self, nm (by omega) (by omega), nm (by omega) (by omega), ne (by omega), List.mem_cons_self, nm (by omega) (by omega), nm (by omega) (by omega), nm (by omega) (by omega), nm (by omega) (by omega)⟩
def iZipK (K : PySem.W.Frag) (ta : TA) : TI := fun σ H R => ta σ H fun vs H1 => ∃ k1 k2 a b xs ys, vs = [.ref a, .ref b] ∧ SqK K H1 k1 a xs ∧ SqK K H1 k2 b ys ∧ R (ItzK K k1 k2 a b) H1
theorem pi_zipK {X : Cx} {e e2 : Expr} {ta : TA} {p pos tpos : Pos} {elts : List Expr} {kk : Nat} (hg : Gl X "zip") (hm : X.mg "zip" = none) (ha : PA X [e, e2] ta)
    (hs : starEach [e, e2] X.env = (false, eval e X.env) :: starEach [e2] X.env := by rfl) (hpl : (backTo pos (starEach [e2] X.env)).any (·.1) = false := by rfl) :
    PI X (.Tuple elts kk tpos) (.Call (.Name "zip" p) [e, e2] [] pos) (iZipK X.K ta) := by
  refine ⟨fun pins s σ H R I h => ?_⟩
  refine Call_ (ld_blt I hg hm PyProof.Rows.boot_zip (PyProof.Rows.callWith_type1 (thn (ha.run pos pins s σ H _ I h) fun us s1 ⟨vs, H1, I1, r1, q1⟩ => ?_) hs hpl))
  obtain ⟨k1, k2, a, b, xs, ys, ex, hqx, hqy, q⟩ := q1
  subst ex
  cases r1 with
  | cons r rr =>
    cases rr with
    | cons r' rr =>
      cases rr
      cases r
      cases r'
      have fresh5 : ∀ c, c ∈ [s1.heap.objs.size + 4, s1.heap.objs.size + 2, s1.heap.objs.size + 3, s1.heap.objs.size, s1.heap.objs.size + 1] → FpOk X pins H1 c := fun c hcm => by
        have e' : c = s1.heap.objs.size + 4 ∨ c = s1.heap.objs.size + 2 ∨ c = s1.heap.objs.size + 3 ∨ c = s1.heap.objs.size ∨ c = s1.heap.objs.size + 1 := by simpa using hcm
        have hle : s1.heap.objs.size ≤ c := by
          rcases e' with z | z | z | z | z
          · rw [z]; exact Nat.le_add_right _ _
          · rw [z]; exact Nat.le_add_right _ _
          · rw [z]; exact Nat.le_add_right _ _
          · rw [z]; exact Nat.le_refl _
          · rw [z]; exact Nat.le_add_right _ _
        exact I1.fpOk hle (I1.hok.fresh hle)
      obtain ⟨its, rv, p1⟩ := inv_seqK I1 hqx
      obtain ⟨its2, rv2, p2⟩ := inv_seqK I1 hqy
      obtain ⟨o1, ho1⟩ := p1.live
      obtain ⟨o2, ho2⟩ := p2.live
      have la := Heap.lt_size ho1
      have lb := Heap.lt_size ho2
      refine call_zipK p1 p2 fun h' hz hTI hTO h1 h2 hsz hk => wpAny_pyIter_zip hz ?_
      have I2 : Inv X pins σ H1 { s1 with heap := h' } := I1.kept (t' := s1.toks) hk
      generalize s1.heap.objs.size = n at *
      have D := zsep2 la lb
      exact ⟨n + 4, [n + 4, n + 2, n + 3, n, n + 1], _, _, H1, rfl, I2, turn_zipK D (Nat.ne_of_gt la) (Nat.ne_of_gt (Nat.lt_succ_of_lt lb)), ⟨hz, hTI, ⟨_, _, hTO⟩, h1, h2⟩, fresh5, q⟩
end G3
set_option Elab.async false
set_option linter.all false
set_option maxRecDepth 100000
set_option maxHeartbeats 4000000
/-! zip over three lists or tuples -/
namespace PySem
open Sem (wp)
open PySem.Spec
section
variable {prog : Program} {w : World} {A : Around} {E : Value → Shared → Prop} {s : Shared}
abbrev z3H1 (h : Heap) (k1 : Bool) (l1 : Addr) : Heap := h.push { cls := .type (itClsK k1), data := .fields #[.ref l1, .int 0 0] }
abbrev z3H2 (h : Heap) (k1 k2 : Bool) (l1 l2 : Addr) : Heap := (z3H1 h k1 l1).push { cls := .type (itClsK k2), data := .fields #[.ref l2, .int 0 0] }
abbrev z3H3 (h : Heap) (k1 k2 k3 : Bool) (l1 l2 l3 : Addr) : Heap := (z3H2 h k1 k2 l1 l2).push { cls := .type (itClsK k3), data := .fields #[.ref l3, .int 0 0] }
abbrev z3H4 (h : Heap) (k1 k2 k3 : Bool) (l1 l2 l3 : Addr) : Heap := (z3H3 h k1 k2 k3 l1 l2 l3).push { cls := .type "tuple", data := .seq #[.ref h.objs.size, .ref (z3H1 h k1 l1).objs.size, .ref (z3H2 h k1 k2 l1 l2).objs.size] }
abbrev z3H5 (h : Heap) (k1 k2 k3 : Bool) (l1 l2 l3 : Addr) : Heap := (z3H4 h k1 k2 k3 l1 l2 l3).push { cls := .type "tuple", data := .seq #[.none, .none, .none] }
abbrev z3H6 (h : Heap) (k1 k2 k3 : Bool) (l1 l2 l3 : Addr) : Heap := (z3H5 h k1 k2 k3 l1 l2 l3).push { cls := .type "zip", data := .fields #[.none, .bool false, .bool false, .ref (z3H3 h k1 k2 k3 l1 l2 l3).objs.size, .ref (z3H4 h k1 k2 k3 l1 l2 l3).objs.size] }
theorem meets_zipK3_new (k1 k2 k3 : Bool) (l1 l2 l3 : Addr) (xs ys us : Array Value) :
    Meets (Builtin.«zip.__new__» ⟨[.type "zip", .ref l1, .ref l2, .ref l3], []⟩) (fun _ R s => IsSeqK k1 s.heap l1 xs ∧ IsSeqK k2 s.heap l2 ys ∧ IsSeqK k3 s.heap l3 us ∧
      R (.ok (.ret (.ref (z3H5 s.heap k1 k2 k3 l1 l2 l3).objs.size))) { s with heap := z3H6 s.heap k1 k2 k3 l1 l2 l3 }) :=
  .of_wp fun prog w A R s h => by
    obtain ⟨hp, g, d, tk, os⟩ := s; obtain ⟨hl1, hl2, hl3, h⟩ := h
    have hsub := sub_zip
    have hL1 : IsSeqK k1 (Shared.heap ⟨hp, g, d, tk, os⟩) l1 xs := hl1
    have hL2 : IsSeqK k2 (Shared.heap ⟨hp.push { cls := .type (itClsK k1), data := .fields #[.ref l1, .int 0 0] }, g, d, tk, os⟩) l2 ys := IsSeqK.at hl2 fun o e => Heap.get?_push_of_some _ e
    have hL3 : IsSeqK k3 (Shared.heap ⟨(hp.push { cls := .type (itClsK k1), data := .fields #[.ref l1, .int 0 0] }).push { cls := .type (itClsK k2), data := .fields #[.ref l2, .int 0 0] }, g, d, tk, os⟩) l3 us := IsSeqK.at hl3 fun o e => Heap.get?_push_of_some _ (Heap.get?_push_of_some _ e)
    wp_walk using wpAny_pyIter_K hL1, wpAny_pyIter_K hL2, wpAny_pyIter_K hL3
    exact ⟨_, rfl, h⟩
theorem call_zipK3 {k1 k2 k3 : Bool} {l1 l2 l3 : Addr} {xs ys us : Array Value} {Q : Value → Shared → Prop} (hl1 : IsSeqK k1 s.heap l1 xs) (hl2 : IsSeqK k2 s.heap l2 ys) (hl3 : IsSeqK k3 s.heap l3 us)
    (h : ∀ h', IsZip h' (s.heap.objs.size + 5) (s.heap.objs.size + 3) (s.heap.objs.size + 4) .none → IsTupOf3 h' (s.heap.objs.size + 3) (.ref s.heap.objs.size) (.ref (s.heap.objs.size + 1)) (.ref (s.heap.objs.size + 2)) →
      IsTupOf3 h' (s.heap.objs.size + 4) .none .none .none → IsIterK k1 h' s.heap.objs.size l1 0 → IsIterK k2 h' (s.heap.objs.size + 1) l2 0 → IsIterK k3 h' (s.heap.objs.size + 2) l3 0 → h'.objs.size = s.heap.objs.size + 6 →
      (∀ c o, s.heap.get? c = some o → h'.get? c = some o) → Q (.ref (s.heap.objs.size + 5)) { s with heap := h' }) :
    wpAny (model prog w) A (call (.type "zip") [.ref l1, .ref l2, .ref l3]) Q E s := by
  refine callType_new F.called_zip (by decide) (F.typeCall_zip_3 _ _ _) (F.newCall_zip_3 _ _ _) (fun obj => F.args_object_init_4 obj _ _ _) F.entry_zip_new
    (meets_zipK3_new k1 k2 k3 l1 l2 l3 xs ys us) ⟨hl1, hl2, hl3, ?_⟩
  have z1 : (z3H1 s.heap k1 l1).objs.size = s.heap.objs.size + 1 := Heap.size_push ..
  have z2 : (z3H2 s.heap k1 k2 l1 l2).objs.size = s.heap.objs.size + 2 := by rw [Heap.size_push, z1]
  have z3 : (z3H3 s.heap k1 k2 k3 l1 l2 l3).objs.size = s.heap.objs.size + 3 := by rw [Heap.size_push, z2]
  have z4 : (z3H4 s.heap k1 k2 k3 l1 l2 l3).objs.size = s.heap.objs.size + 4 := by rw [Heap.size_push, z3]
  have z5 : (z3H5 s.heap k1 k2 k3 l1 l2 l3).objs.size = s.heap.objs.size + 5 := by rw [Heap.size_push, z4]
  have z6 : (z3H6 s.heap k1 k2 k3 l1 l2 l3).objs.size = s.heap.objs.size + 6 := by rw [Heap.size_push, z5]
  have g6 : (z3H6 s.heap k1 k2 k3 l1 l2 l3).get? (z3H5 s.heap k1 k2 k3 l1 l2 l3).objs.size = some _ := Heap.get?_push_size _ rfl
  have g5 : (z3H6 s.heap k1 k2 k3 l1 l2 l3).get? (z3H4 s.heap k1 k2 k3 l1 l2 l3).objs.size = some _ := Heap.get?_push_of_some _ (Heap.get?_push_size _ rfl)
  have g4 : (z3H6 s.heap k1 k2 k3 l1 l2 l3).get? (z3H3 s.heap k1 k2 k3 l1 l2 l3).objs.size = some _ := Heap.get?_push_of_some _ (Heap.get?_push_of_some _ (Heap.get?_push_size _ rfl))
  have g3 : (z3H6 s.heap k1 k2 k3 l1 l2 l3).get? (z3H2 s.heap k1 k2 l1 l2).objs.size = some _ := Heap.get?_push_of_some _ (Heap.get?_push_of_some _ (Heap.get?_push_of_some _ (Heap.get?_push_size _ rfl)))
  have g2 : (z3H6 s.heap k1 k2 k3 l1 l2 l3).get? (z3H1 s.heap k1 l1).objs.size = some _ := Heap.get?_push_of_some _ (Heap.get?_push_of_some _ (Heap.get?_push_of_some _ (Heap.get?_push_of_some _ (Heap.get?_push_size _ rfl))))
  have g1 : (z3H6 s.heap k1 k2 k3 l1 l2 l3).get? s.heap.objs.size = some _ := Heap.get?_push_of_some _ (Heap.get?_push_of_some _ (Heap.get?_push_of_some _ (Heap.get?_push_of_some _ (Heap.get?_push_of_some _ (Heap.get?_push_size _ rfl)))))
  show _ ∧ _
  rw [z3, z4, z5] at g6
  rw [z1, z2, z3] at g4
  rw [z4] at g5
  rw [z2] at g3
  rw [z1] at g2
  rw [z5]
  exact ⟨⟨_, g6, rfl⟩, h _ g6 g4 g5 (isIterK_new g1) (isIterK_new g2) (isIterK_new g3) z6 fun c o x =>
    Heap.get?_push_of_some _ (Heap.get?_push_of_some _ (Heap.get?_push_of_some _ (Heap.get?_push_of_some _ (Heap.get?_push_of_some _ (Heap.get?_push_of_some _ x)))))⟩
end
end PySem
namespace G3
open PySem PySem.Spec PyProof.Rows L2
def ItzK3 (K : PySem.W.Frag) (k1 k2 k3 : Bool) (a b c : Addr) : It :=
  ⟨fun i H => ∃ (xs ys us : List V) (x y u : V), SqK K H k1 a xs ∧ SqK K H k2 b ys ∧ SqK K H k3 c us ∧ xs[i]? = some x ∧ ys[i]? = some y ∧ us[i]? = some u,
    fun i H v H' => ∃ T x y u, v = .ref T ∧ H T = none ∧ H' = upd H T (.tup [x, y, u]) ∧ (∀ xs, SqK K H k1 a xs → xs[i]? = some x) ∧ (∀ ys, SqK K H k2 b ys → ys[i]? = some y) ∧ ∀ us, SqK K H k3 c us → us[i]? = some u,
    fun i H => ∃ xs ys us : List V, SqK K H k1 a xs ∧ SqK K H k2 b ys ∧ SqK K H k3 c us ∧ i = min (min xs.length ys.length) us.length⟩
theorem turn_zipK3 {P : Program} {w : World} {K : PySem.W.Frag} {elts : List Expr} {kk : Nat} {tpos : Pos} {k1 k2 k3 : Bool} {a b c z TI TO i1 i2 i3 : Addr} (D : ZipSep3 z TI TO i1 i2 i3 [i1, a] [i2, b] [i3, c]) (n1 : i1 ≠ a) (n2 : i2 ≠ b) (n3 : i3 ≠ c) :
    Turn P w K (.Tuple elts kk tpos) (ItzK3 K k1 k2 k3 a b c) [z, TI, TO, i1, i2, i3] z (fun i h => IsZip h z TI TO .none ∧ IsTupOf3 h TI (.ref i1) (.ref i2) (.ref i3) ∧ (∃ x y u, IsTupOf3 h TO x y u) ∧ IsIterK k1 h i1 a i ∧ IsIterK k2 h i2 b i ∧ IsIterK k3 h i3 c i) where
  mem := by simp
  obj := fun i h st c hc => by
    obtain ⟨hz, hTI, ⟨x, y, u, hTO⟩, h1, h2, h3⟩ := st
    have e' : c = z ∨ c = TI ∨ c = TO ∨ c = i1 ∨ c = i2 ∨ c = i3 := by simpa using hc
    rcases e' with q | q | q | q | q | q
    · rw [q]; exact ⟨_, hz, fun v q => nomatch q⟩
    · rw [q]; exact ⟨_, hTI, fun v q => nomatch q⟩
    · rw [q]; exact ⟨_, hTO, fun v q => nomatch q⟩
    · rw [q]; obtain ⟨o, ho, hd⟩ := h1.live; exact ⟨o, ho, hd⟩
    · rw [q]; obtain ⟨o, ho, hd⟩ := h2.live; exact ⟨o, ho, hd⟩
    · rw [q]; obtain ⟨o, ho, hd⟩ := h3.live; exact ⟨o, ho, hd⟩
  keep := fun i h h' st k => by
    obtain ⟨hz, hTI, ⟨x, y, u, hTO⟩, h1, h2, h3⟩ := st
    exact ⟨k z (by simp) _ hz, k TI (by simp) _ hTI, ⟨x, y, u, k TO (by simp) _ hTO⟩, h1.at fun o q => k i1 (by simp) o q, h2.at fun o q => k i2 (by simp) o q, h3.at fun o q => k i3 (by simp) o q⟩
  item := by
    intro X hP hw hK hc i pins s σ H E I hf st hg
    subst hP hw hK
    obtain ⟨hz, hTI, ⟨x0, y0, u0, hTO⟩, h1, h2, h3⟩ := st
    obtain ⟨xs, ys, us, x, y, v, hqx, hqy, hqu, hx, hy, hv⟩ := hg
    obtain ⟨its, rv, p⟩ := inv_seqK I hqx
    obtain ⟨its2, rv2, p2⟩ := inv_seqK I hqy
    obtain ⟨its3, rv3, p3⟩ := inv_seqK I hqu
    obtain ⟨u, hu, ru⟩ := rv.get hx
    obtain ⟨u2, hu2, ru2⟩ := rv2.get hy
    obtain ⟨u3, hu3, ru3⟩ := rv3.get hv
    have hzl : z < s.heap.objs.size := Heap.lt_size hz
    have l1 : i < its.toArray.size := by rw [List.size_toArray, ← rv.length]; exact (List.getElem?_eq_some_iff.mp hx).1
    have l2 : i < its2.toArray.size := by rw [List.size_toArray, ← rv2.length]; exact (List.getElem?_eq_some_iff.mp hy).1
    have l3 : i < its3.toArray.size := by rw [List.size_toArray, ← rv3.length]; exact (List.getElem?_eq_some_iff.mp hv).1
    refine wpAny_pyNext_zipD3_item D (drawsK (A := X.A.in1) n1 (I.ok.hd hc)) (drawsK (A := X.A.in1) n2 (I.ok.hd hc)) (drawsK (A := X.A.in1) n3 (I.ok.hd hc)) hz hTI hTO ⟨h1, p⟩ ⟨h2, p2⟩ ⟨h3, p3⟩ l1 l2 l3 fun u' u2' u3' h' tk hP1 hP2 hP3 z' TO' st1 st2 st3 hT hsz hk => ?_
    obtain ⟨h1', _⟩ := st1
    obtain ⟨h2', _⟩ := st2
    obtain ⟨h3', _⟩ := st3
    have eu : u' = u := by
      have e1 : its.toArray[i]? = some u := by simpa using hu
      rw [e1] at hP1; exact (Option.some.inj hP1).symm
    have eu2 : u2' = u2 := by
      have e1 : its2.toArray[i]? = some u2 := by simpa using hu2
      rw [e1] at hP2; exact (Option.some.inj hP2).symm
    have eu3 : u3' = u3 := by
      have e1 : its3.toArray[i]? = some u3 := by simpa using hu3
      rw [e1] at hP3; exact (Option.some.inj hP3).symm
    subst eu eu2 eu3
    refine ⟨_, rfl, wpAny_letOwnedTupleGo_zip (s := { s with heap := h', toks := tk }) z' fun h'' z'' sb => ?_⟩
    have hT2 : h''.get? s.heap.objs.size = some { cls := .type "tuple", data := .seq #[u', u2', u3'] } := (sb.2 _ (Nat.ne_of_gt hzl)).trans hT
    have new : ObjOk X.prog X.w (upd H s.heap.objs.size (.tup [x, y, v])) h'' s.heap.objs.size (.tup [x, y, v]) :=
      ⟨by show 3 ≤ sizeLine; decide, [u', u2', u3'], .cons ru (.cons ru2 (.cons ru3 .nil)), ⟨_, hT2, rfl, _, rfl⟩⟩
    have I1 : Inv X pins σ (upd H s.heap.objs.size (.tup [x, y, v])) { s with heap := h'', toks := tk } :=
      I.turnedNew (t' := tk) (ch := [z, TI, TO, i1, i2, i3]) (fun c o hb q => (sb.2 c (fun q' => hb (by simp [q']))).trans (hk c o (fun q' => hb (by simp [q'])) (fun q' => hb (by simp [q'])) (fun q' => hb (by simp [q'])) (fun q' => hb (by simp [q'])) (fun q' => hb (by simp [q'])) q)) hf (Nat.le_refl _) new
    refine ⟨.ref s.heap.objs.size, _, I1, rfl, ⟨_, x, y, v, rfl, I.hok.fresh (Nat.le_refl _), rfl, fun l hl => by rw [inv_seqK_inj I hl hqx]; exact hx, fun l hl => by rw [inv_seqK_inj I hl hqy]; exact hy, fun l hl => by rw [inv_seqK_inj I hl hqu]; exact hv⟩, ⟨z'', ?_, ⟨u', u2', u3', ?_⟩, ?_, ?_, ?_⟩, fun c hcm => ?_⟩
    · exact (sb.2 _ D.TIz).trans (hk _ _ D.TIz D.TITO D.TIi1 D.TIi2 D.TIi3 hTI)
    · exact (sb.2 _ D.TOz).trans TO'
    · exact h1'.at fun o q => (sb.2 _ (Ne.symm D.zi1)).trans q
    · exact h2'.at fun o q => (sb.2 _ (Ne.symm D.zi2)).trans q
    · exact h3'.at fun o q => (sb.2 _ (Ne.symm D.zi3)).trans q
    · have hlt : c < s.heap.objs.size := by
        have e' : c = z ∨ c = TI ∨ c = TO ∨ c = i1 ∨ c = i2 ∨ c = i3 := by simpa using hcm
        rcases e' with q | q | q | q | q | q
        · rw [q]; exact hzl
        · rw [q]; exact Heap.lt_size hTI
        · rw [q]; exact Heap.lt_size hTO
        · rw [q]; obtain ⟨_, e1, _⟩ := h1.live; exact Heap.lt_size e1
        · rw [q]; obtain ⟨_, e2, _⟩ := h2.live; exact Heap.lt_size e2
        · rw [q]; obtain ⟨_, e3, _⟩ := h3.live; exact Heap.lt_size e3
      rw [upd_ne (Nat.ne_of_lt hlt)]
      exact (hf c hcm).1
  done := by
    intro X hP hw hK hc i pins s σ H E I hf st hg
    subst hP hw hK
    obtain ⟨hz, hTI, ⟨x0, y0, u0, hTO⟩, h1, h2, h3⟩ := st
    obtain ⟨xs, ys, us, hqx, hqy, hqu, hend⟩ := hg
    obtain ⟨its, rv, p⟩ := inv_seqK I hqx
    obtain ⟨its2, rv2, p2⟩ := inv_seqK I hqy
    obtain ⟨its3, rv3, p3⟩ := inv_seqK I hqu
    have l1 := rv.length
    have l2 := rv2.length
    have l3 := rv3.length
    exact wpAny_pyNext_zipD3_end D (drawsK (A := X.A.in1) n1 (I.ok.hd hc)) (drawsK (A := X.A.in1) n2 (I.ok.hd hc)) (drawsK (A := X.A.in1) n3 (I.ok.hd hc)) hz hTI hTO ⟨h1, p⟩ ⟨h2, p2⟩ ⟨h3, p3⟩ (by rw [List.size_toArray]; omega) (by rw [List.size_toArray]; omega) (by rw [List.size_toArray]; omega) (by rw [List.size_toArray, List.size_toArray, List.size_toArray]; omega) fun h' tk hk => ⟨rfl, I.turnedL (t' := tk) (ch := [z, TI, TO, i1, i2, i3]) (fun c o hb q =>
      hk c o (fun q' => hb (by simp [q'])) (fun q' => hb (by simp [q'])) (fun q' => hb (by simp [q'])) (fun q' => hb (by simp [q'])) (fun q' => hb (by simp [q'])) q) hf⟩
  self := fun A i s Q E st h => wpAny_pyIter_zip st.1 h
theorem zsep3 {n a b c : Nat} (la : a < n) (lb : b < n) (lc : c < n) : ZipSep3 (n + 5) (n + 3) (n + 4) n (n + 1) (n + 2) [n, a] [n + 1, b] [n + 2, c] := by
  have ne : ∀ {x y : Nat}, x ≠ y → ¬ (@Eq Addr x y) := fun h => h
  have nm : ∀ {x y z : Nat}, x ≠ y → x ≠ z → ¬ (@Membership.mem Addr (List Addr) _ [y, z] x) := fun {x y z} h1 h2 h => by
    rcases List.mem_cons.mp h with h | h
    · exact h1 h
    · exact h2 (List.mem_singleton.mp h)
  exact ⟨ne (by omega), ne (by omega), ne (by omega), ne (by omega), List.mem_cons_self, nm (by omega) (by omega), nm (by omega) (by omega), ne (by omega), List.mem_cons_self, nm (by omega) (by omega), nm (by omega) (by omega), ne (by omega), List.mem_cons_self, nm (by omega) (by omega), nm (by omega) (by omega), nm (by omega) (by omega), nm (by omega) (by omega), nm (by omega) (by omega), nm (by omega) (by omega), nm (by omega) (by omega), nm (by omega) (by omega)⟩
def iZipK3 (K : PySem.W.Frag) (ta : TA) : TI := fun σ H R => ta σ H fun vs H1 => ∃ k1 k2 k3 a b c xs ys us, vs = [.ref a, .ref b, .ref c] ∧ SqK K H1 k1 a xs ∧ SqK K H1 k2 b ys ∧ SqK K H1 k3 c us ∧ R (ItzK3 K k1 k2 k3 a b c) H1
theorem pi_zipK3 {X : Cx} {e e2 e3 : Expr} {ta : TA} {p pos tpos : Pos} {elts : List Expr} {kk : Nat} (hg : Gl X "zip") (hm : X.mg "zip" = none) (ha : PA X [e, e2, e3] ta)
    (hs : starEach [e, e2, e3] X.env = (false, eval e X.env) :: starEach [e2, e3] X.env := by rfl) (hpl : (backTo pos (starEach [e2, e3] X.env)).any (·.1) = false := by rfl) :
    PI X (.Tuple elts kk tpos) (.Call (.Name "zip" p) [e, e2, e3] [] pos) (iZipK3 X.K ta) := by
  refine ⟨fun pins s σ H R I h => ?_⟩
  refine Call_ (ld_blt I hg hm PyProof.Rows.boot_zip (PyProof.Rows.callWith_type1 (thn (ha.run pos pins s σ H _ I h) fun us s1 ⟨vs, H1, I1, r1, q1⟩ => ?_) hs hpl))
  obtain ⟨k1, k2, k3, a, b, c, xs, ys, us', ex, hqx, hqy, hqu, q⟩ := q1
  subst ex
  cases r1 with
  | cons r rr =>
    cases rr with
    | cons r' rr =>
      cases rr with
      | cons r'' rr =>
        cases rr
        cases r
        cases r'
        cases r''
        have fresh6 : ∀ c, c ∈ [s1.heap.objs.size + 5, s1.heap.objs.size + 3, s1.heap.objs.size + 4, s1.heap.objs.size, s1.heap.objs.size + 1, s1.heap.objs.size + 2] → FpOk X pins H1 c := fun c hcm => by
          have e' : c = s1.heap.objs.size + 5 ∨ c = s1.heap.objs.size + 3 ∨ c = s1.heap.objs.size + 4 ∨ c = s1.heap.objs.size ∨ c = s1.heap.objs.size + 1 ∨ c = s1.heap.objs.size + 2 := by simpa using hcm
          have hle : s1.heap.objs.size ≤ c := by
            rcases e' with z | z | z | z | z | z
            · rw [z]; exact Nat.le_add_right _ _
            · rw [z]; exact Nat.le_add_right _ _
            · rw [z]; exact Nat.le_add_right _ _
            · rw [z]; exact Nat.le_refl _
            · rw [z]; exact Nat.le_add_right _ _
            · rw [z]; exact Nat.le_add_right _ _
          exact I1.fpOk hle (I1.hok.fresh hle)
        obtain ⟨its, rv, p1⟩ := inv_seqK I1 hqx
        obtain ⟨its2, rv2, p2⟩ := inv_seqK I1 hqy
        obtain ⟨its3, rv3, p3⟩ := inv_seqK I1 hqu
        obtain ⟨o1, ho1⟩ := p1.live
        obtain ⟨o2, ho2⟩ := p2.live
        obtain ⟨o3, ho3⟩ := p3.live
        have la := Heap.lt_size ho1
        have lb := Heap.lt_size ho2
        have lc := Heap.lt_size ho3
        refine call_zipK3 p1 p2 p3 fun h' hz hTI hTO h1 h2 h3 hsz hk => wpAny_pyIter_zip hz ?_
        have I2 : Inv X pins σ H1 { s1 with heap := h' } := I1.kept (t' := s1.toks) hk
        generalize s1.heap.objs.size = n at *
        have D := zsep3 la lb lc
        exact ⟨n + 5, [n + 5, n + 3, n + 4, n, n + 1, n + 2], _, _, H1, rfl, I2, turn_zipK3 D (Nat.ne_of_gt la) (Nat.ne_of_gt (Nat.lt_succ_of_lt lb)) (Nat.ne_of_gt (Nat.lt_succ_of_lt (Nat.lt_succ_of_lt lc))), ⟨hz, hTI, ⟨_, _, _, hTO⟩, h1, h2, h3⟩, fresh6, q⟩
end G3
set_option Elab.async false
set_option linter.all false
set_option maxRecDepth 100000
set_option maxHeartbeats 4000000
/-! walks, comprehensions, statements over values by content -/
namespace G3
open PySem PySem.Spec PyProof.Rows L2
section
variable {X : Cx} {a b c e : Expr} {ta tb tc te : TE3} {pos apos : Pos} {es : List Expr} {tr : TA3} {n : Nat}
/-! ### what is walked -/
theorem SqL.uniq {K : PySem.W.Frag} {H : Hp} {a : Addr} {xs : List V} (h : H a = some (.lst xs)) {ys : List V} (q : SqL K H a ys) (nk : K.lookup a = none) : xs = ys := by
  rcases q with (q | ⟨o, q⟩) | ⟨o, its, n, hk, _⟩
  · rw [h] at q; cases q; rfl
  · rw [h] at q; cases q
  · rw [nk] at hk; cases hk
theorem itL_ok {K : PySem.W.Frag} {H0 : Hp} {p : Addr} {l : List D} : ItOk K H0 (Itl K p) l fun M => M p = some (.lst l) := by
  refine ⟨fun i H M d g hr k e => ?_, fun i H M g hr k hl0 => (fun hl => ?_) (Nat.le_of_eq hl0.symm)⟩
  · obtain ⟨xs, hx, q⟩ := hr.list k
    obtain ⟨v, hv, r⟩ := q.get e
    refine ⟨⟨xs, v, SqL.of hx, hv⟩, fun x H' y => ?_⟩
    obtain ⟨rfl, y⟩ := y
    have := y xs (SqL.of hx)
    rw [hv] at this
    cases this
    exact ⟨.refl, hr, r⟩
  · obtain ⟨xs, hx, q⟩ := hr.list k
    exact ⟨xs, SqL.of hx, by rw [q.length]; exact hl⟩
theorem itC_ok {K : PySem.W.Frag} {H0 : Hp} {p : Addr} {xs : List V} {l : List D} (s : SqC K H0 p xs) (q : Reps K H0 xs l) : ItOk K H0 (Itl K p) l fun _ => True := by
  refine ⟨fun i H M d g hr k e => ?_, fun i H M g hr k hl0 => (fun hl => ?_) (Nat.le_of_eq hl0.symm)⟩
  · obtain ⟨v, hv, r⟩ := q.get e
    refine ⟨⟨xs, v, (g.cl _ _ s).l, hv⟩, fun x H' y => ?_⟩
    obtain ⟨rfl, y⟩ := y
    have := y xs (g.cl _ _ s).l
    rw [hv] at this
    cases this
    exact ⟨.refl, hr, Rep.mono g _ r⟩
  · exact ⟨xs, (g.cl _ _ s).l, by rw [q.length]; exact hl⟩
theorem itT_ok {K : PySem.W.Frag} {H0 : Hp} {p : Addr} {xs : List V} {l : List D} (s : SqT K H0 p xs) (q : Reps K H0 xs l) : ItOk K H0 (Itt K p) l fun _ => True := by
  refine ⟨fun i H M d g hr k e => ?_, fun i H M g hr k hl0 => (fun hl => ?_) (Nat.le_of_eq hl0.symm)⟩
  · obtain ⟨v, hv, r⟩ := q.get e
    refine ⟨⟨xs, v, g.tup _ _ s, hv⟩, fun x H' y => ?_⟩
    obtain ⟨rfl, y⟩ := y
    have := y xs (g.tup _ _ s)
    rw [hv] at this
    cases this
    exact ⟨.refl, hr, Rep.mono g _ r⟩
  · exact ⟨xs, g.tup _ _ s, by rw [q.length]; exact hl⟩
theorem rgD_get {i c : Int} {n k : Nat} {d : D} (h : (rgD i c n)[k]? = some d) : k < n ∧ d = .int (i + (k : Nat) * c) := by
  unfold rgD at h
  rw [List.getElem?_map] at h
  cases e : (List.range n)[k]? with
  | none => rw [e] at h; cases h
  | some j =>
    rw [e] at h
    obtain ⟨h1, h2⟩ := List.getElem?_eq_some_iff.mp e
    rw [List.length_range] at h1
    rw [List.getElem_range] at h2
    subst h2
    cases h
    exact ⟨h1, rfl⟩
theorem rgD_length {i c : Int} {n : Nat} : (rgD i c n).length = n := by unfold rgD; rw [List.length_map, List.length_range]
theorem itR_ok {K : PySem.W.Frag} {H0 : Hp} {lo : Int} {n : Nat} : ItOk K H0 (Itr lo n) (rgD lo 1 n) fun _ => True := by
  refine ⟨fun i H M d g hr k e => ?_, fun i H M g hr k hl0 => (fun hl => ?_) (Nat.le_of_eq hl0.symm)⟩
  · obtain ⟨h1, rfl⟩ := rgD_get e
    refine ⟨h1, fun x H' y => ?_⟩
    obtain ⟨rfl, rfl⟩ := y
    refine ⟨.refl, hr, ?_⟩
    rw [Int.mul_one]
    exact .int _
  · rw [rgD_length] at hl; exact hl
theorem itRc_ok {K : PySem.W.Frag} {H0 : Hp} {lo c : Int} {n : Nat} : ItOk K H0 (Itc lo c n) (rgD lo c n) fun _ => True := by
  refine ⟨fun i H M d g hr k e => ?_, fun i H M g hr k hl0 => (fun hl => ?_) (Nat.le_of_eq hl0.symm)⟩
  · obtain ⟨h1, rfl⟩ := rgD_get e
    refine ⟨h1, fun x H' y => ?_⟩
    obtain ⟨rfl, rfl⟩ := y
    exact ⟨.refl, hr, .int _⟩
  · rw [rgD_length] at hl; exact hl
theorem new_tup {K : PySem.W.Frag} {H : Hp} {M : Mp} {T : Addr} {xs : List V} {ds : List D} (hr : HR K M H) (n : H T = none) (r : Reps K H xs ds) :
    Grow K H (upd H T (.tup xs)) ∧ HR K M (upd H T (.tup xs)) ∧ Rep K (upd H T (.tup xs)) (.ref T) (.tup ds) :=
  ⟨.new n, hr.upd (.new n) (hr.none n), .tup (SqT.of upd_same) (r.mono (.new n))⟩
theorem enumD_get {l : List D} {i : Nat} {d : D} (h : (enumD l)[i]? = some d) : ∃ x, l[i]? = some x ∧ d = .tup [.int (i : Nat), x] := by
  unfold enumD at h
  rw [List.getElem?_mapIdx] at h
  cases e : l[i]? with
  | none => rw [e] at h; cases h
  | some x => rw [e] at h; cases h; exact ⟨x, rfl, rfl⟩
theorem enumD_length {l : List D} : (enumD l).length = l.length := by unfold enumD; rw [List.length_mapIdx]
theorem itE_ok {K : PySem.W.Frag} {H0 : Hp} {p : Addr} {l : List D} {keep : Mp → Prop} (hk : ∀ H M, Grow K H0 H → HR K M H → keep M → ∃ xs, SqL K H p xs ∧ Reps K H xs l) : ItOk K H0 (Ite K p) (enumD l) keep := by
  refine ⟨fun i H M d g hr k e => ?_, fun i H M g hr k hl0 => (fun hl => ?_) (Nat.le_of_eq hl0.symm)⟩
  · obtain ⟨xs, s, q⟩ := hk H M g hr k
    obtain ⟨x, hx, rfl⟩ := enumD_get e
    obtain ⟨v, hv, r⟩ := q.get hx
    refine ⟨⟨xs, v, s, hv⟩, fun y H' z => ?_⟩
    obtain ⟨T, w, rfl, n, rfl, f⟩ := z
    have := f xs s
    rw [hv] at this
    cases this
    exact new_tup hr n (.cons (.int _) (.cons r .nil))
  · obtain ⟨xs, s, q⟩ := hk H M g hr k
    rw [enumD_length] at hl
    exact ⟨xs, s, by rw [q.length]; exact hl⟩
theorem zipD_get {l m : List D} {i : Nat} {d : D} (h : (zipD l m)[i]? = some d) : ∃ x y, l[i]? = some x ∧ m[i]? = some y ∧ d = .tup [x, y] := by
  unfold zipD at h
  rw [List.getElem?_map] at h
  cases e : (l.zip m)[i]? with
  | none => rw [e] at h; cases h
  | some z =>
    rw [e] at h
    cases h
    obtain ⟨x, y⟩ := z
    obtain ⟨h1, h2⟩ := List.getElem?_zip_eq_some.mp e
    exact ⟨x, y, h1, h2, rfl⟩
theorem zipD_length {l m : List D} : (zipD l m).length = min l.length m.length := by unfold zipD; rw [List.length_map, List.length_zip]
theorem itZK_ok {K : PySem.W.Frag} {H0 : Hp} {k1 k2 : Bool} {p p' : Addr} {l m : List D} {keep : Mp → Prop} (hk : ∀ H M, Grow K H0 H → HR K M H → keep M → ∃ xs ys, SqK K H k1 p xs ∧ Reps K H xs l ∧ SqK K H k2 p' ys ∧ Reps K H ys m) : ItOk K H0 (ItzK K k1 k2 p p') (zipD l m) keep := by
  refine ⟨fun i H M d g hr k e => ?_, fun i H M g hr k hl => ?_⟩
  · obtain ⟨xs, ys, s, q, s', q'⟩ := hk H M g hr k
    obtain ⟨x, y, hx, hy, rfl⟩ := zipD_get e
    obtain ⟨v, hv, r⟩ := q.get hx
    obtain ⟨v', hv', r'⟩ := q'.get hy
    refine ⟨⟨xs, ys, v, v', s, s', hv, hv'⟩, fun z H' zz => ?_⟩
    obtain ⟨T, w, w', rfl, n, rfl, f, f'⟩ := zz
    have e1 := f xs s
    have e2 := f' ys s'
    rw [hv] at e1
    rw [hv'] at e2
    cases e1; cases e2
    exact new_tup hr n (.cons r (.cons r' .nil))
  · obtain ⟨xs, ys, s, q, s', q'⟩ := hk H M g hr k
    rw [zipD_length] at hl
    exact ⟨xs, ys, s, s', by rw [q.length, q'.length]; omega⟩
/-- a list or a tuple -/
def iSeq (K : PySem.W.Frag) (tl : TE) : TI := fun σ H R => tl σ H fun x H1 => ∃ a, x = .ref a ∧ (((∃ xs, SqL K H1 a xs) ∧ R (Itl K a) H1) ∨ ((∃ xs, SqT K H1 a xs) ∧ R (Itt K a) H1))
theorem pi_seq {tg l : Expr} {tl : TE} (hl : PE X l tl) : PI X tg l (iSeq X.K tl) := by
  refine ⟨fun pins s σ H R I h => ?_⟩
  refine thn (hl.run pins s σ H _ I h) fun v s1 ⟨x, H1, I1, r1, q1⟩ => ?_
  obtain ⟨a, rfl, q⟩ := q1
  cases r1
  rcases q with ⟨⟨xs, hq⟩, q⟩ | ⟨⟨xs, hq⟩, q⟩
  · obtain ⟨its, rv, p, hz⟩ := I1.list hq
    refine wpAny_pyIter_list p.isList ⟨s1.heap.objs.size, [s1.heap.objs.size], _, _, H1, rfl, I1.kept (t' := s1.toks) fun b o e => Heap.get?_push_of_some _ e, turn_list a _, ⟨_, Heap.get?_push_size _ rfl, rfl, rfl⟩, fun b hb => ?_, q⟩
    rw [List.mem_singleton] at hb
    subst hb
    exact I1.fpOk (Nat.le_refl _) (I1.hok.fresh (Nat.le_refl _))
  · obtain ⟨its, rv, p, hz⟩ := I1.tuple hq
    refine wpAny_pyIter_tuple (show s1.heap.IsTuple a its.toArray from p) ⟨s1.heap.objs.size, [s1.heap.objs.size], _, _, H1, rfl, I1.kept (t' := s1.toks) fun b o e => Heap.get?_push_of_some _ e, turn_tuple a _, ⟨_, Heap.get?_push_size _ rfl, rfl, rfl⟩, fun b hb => ?_, q⟩
    rw [List.mem_singleton] at hb
    subst hb
    exact I1.fpOk (Nat.le_refl _) (I1.hok.fresh (Nat.le_refl _))
theorem li_seq {tg : Expr} (ha : PE X a (lift X.K ta)) : PI X tg a (liftI X.K fun τ M R => ta τ M fun d M1 => seqI d M1 R) := PIw (pi_seq ha) fun σ H R h => by
  obtain ⟨τ, M, R3, hr, sl, h, L⟩ := h
  refine ⟨τ, M, _, hr, sl, h, fun v H1 d M1 h1 g1 hr1 r1 => ?_⟩
  unfold seqI at h1
  cases r1 with
  | tup s q => exact ⟨_, rfl, .inr ⟨⟨_, s⟩, L _ _ _ _ _ h1 g1 hr1 (itT_ok s q)⟩⟩
  | cl s q => exact ⟨_, rfl, .inl ⟨⟨_, s.l⟩, L _ _ _ _ _ h1 g1 hr1 (itC_ok s q)⟩⟩
  | ref p =>
    dsimp only at h1
    split at h1
    · rename_i l e
      obtain ⟨xs, hx, q⟩ := hr1.list e
      exact ⟨_, rfl, .inl ⟨⟨_, SqL.of hx⟩, L _ _ _ _ _ h1 g1 hr1 itL_ok⟩⟩
    · exact h1.elim
  | _ => exact h1.elim
variable {p : Pos} {tg : Expr}
theorem li_rng1 (ha : PE X a (lift X.K ta)) (hg : Gl X "range") (hm : X.mg "range" = none) (he : starEach [a] X.env = (false, eval a X.env) :: starEach [] X.env) :
    PI X tg (.Call (.Name "range" p) [a] [] pos) (liftI X.K fun τ M R => ta τ M fun d M1 => isI d fun j => -(2 ^ 62) ≤ j ∧ j < 2 ^ 62 ∧ R (rgD 0 1 j.toNat) (fun _ => True) M1) :=
  PIw (pi_range1 hg hm (la_cons ha la_nil he) he) fun σ H R h => by
    obtain ⟨τ, M, R3, hr, sl, h, L⟩ := h
    refine ⟨τ, M, fun ds M1 => one ds fun d => isI d fun j => -(2 ^ 62) ≤ j ∧ j < 2 ^ 62 ∧ R3 (rgD 0 1 j.toNat) (fun _ => True) M1, hr, sl, h, fun vs H1 ds M1 h1 g1 hr1 r1 _ => ?_⟩
    obtain ⟨d, rfl, h2⟩ := one_inv h1
    obtain ⟨v, rfl, r⟩ := Reps1 r1
    obtain ⟨j, rfl, h3, h4, h5⟩ := isI_inv h2
    cases r
    exact ⟨j, rfl, h3, h4, L _ _ _ _ _ h5 g1 hr1 itR_ok⟩
theorem li_rng2 (ha : PE X a (lift X.K ta)) (hb : PE X b (lift X.K tb)) (hg : Gl X "range") (hm : X.mg "range" = none) (he : starEach [a, b] X.env = (false, eval a X.env) :: starEach [b] X.env) (he2 : starEach [b] X.env = (false, eval b X.env) :: starEach [] X.env) :
    PI X tg (.Call (.Name "range" p) [a, b] [] pos) (liftI X.K fun τ M R => ta τ M fun d M1 => tb τ M1 fun e M2 => isI d fun i => isI e fun j => (-(2 ^ 62) ≤ i ∧ i < 2 ^ 62 ∧ -(2 ^ 62) ≤ j ∧ j < 2 ^ 62) ∧ R (rgD i 1 (j - i).toNat) (fun _ => True) M2) :=
  PIw (pi_range2 hg hm (la_cons ha (la_cons hb la_nil he2) he) (by rw [he, he2]; rfl) (by rw [he2]; rfl)) fun σ H R h => by
    obtain ⟨τ, M, R3, hr, sl, h, L⟩ := h
    refine ⟨τ, M, fun ds M2 => two ds fun d e => isI d fun i => isI e fun j => (-(2 ^ 62) ≤ i ∧ i < 2 ^ 62 ∧ -(2 ^ 62) ≤ j ∧ j < 2 ^ 62) ∧ R3 (rgD i 1 (j - i).toNat) (fun _ => True) M2, hr, sl, h, fun vs H1 ds M1 h1 g1 hr1 r1 _ => ?_⟩
    obtain ⟨d, e, rfl, h2⟩ := two_inv h1
    obtain ⟨v, w, rfl, r, r'⟩ := Reps2 r1
    obtain ⟨i, rfl, h3⟩ := isI_inv h2
    obtain ⟨j, rfl, h4, h5⟩ := isI_inv h3
    cases r; cases r'
    exact ⟨i, j, rfl, h4, L _ _ _ _ _ h5 g1 hr1 itR_ok⟩
def three (ds : List D) (f : D → D → D → Prop) : Prop := match ds with
  | [d, e, g] => f d e g
  | _ => False
theorem three_inv {ds : List D} {f : D → D → D → Prop} (h : three ds f) : ∃ d e g, ds = [d, e, g] ∧ f d e g := by
  unfold three at h
  split at h
  · exact ⟨_, _, _, rfl, h⟩
  · exact h.elim
theorem li_rng3 (ha : PE X a (lift X.K ta)) (hb : PE X b (lift X.K tb)) (hc : PE X c (lift X.K tc)) (hg : Gl X "range") (hm : X.mg "range" = none) (he : starEach [a, b, c] X.env = (false, eval a X.env) :: starEach [b, c] X.env) (he2 : starEach [b, c] X.env = (false, eval b X.env) :: starEach [c] X.env)
    (he3 : starEach [c] X.env = (false, eval c X.env) :: starEach [] X.env) :
    PI X tg (.Call (.Name "range" p) [a, b, c] [] pos) (liftI X.K fun τ M R => ta τ M fun d M1 => tb τ M1 fun e M2 => tc τ M2 fun f M3 => isI d fun i => isI e fun j => isI f fun k => ∃ n, RgC i j k n ∧ R (rgD i k n) (fun _ => True) M3) :=
  PIw (pi_range3 hg hm (la_cons ha (la_cons hb (la_cons hc la_nil he3) he2) he) (by first | exact he | (rw [he, he2, he3]; rfl)) (by first | exact he2 | rw [he2, he3]; rfl)) fun σ H R h => by
    obtain ⟨τ, M, R3, hr, sl, h, L⟩ := h
    refine ⟨τ, M, fun ds M3 => three ds fun d e f => isI d fun i => isI e fun j => isI f fun k => ∃ n, RgC i j k n ∧ R3 (rgD i k n) (fun _ => True) M3, hr, sl, h, fun vs H1 ds M1 h1 g1 hr1 r1 _ => ?_⟩
    obtain ⟨d, e, f, rfl, h2⟩ := three_inv h1
    cases r1 with
    | cons r rs =>
      obtain ⟨v, w, rfl, r', r''⟩ := Reps2 rs
      obtain ⟨i, rfl, h3⟩ := isI_inv h2
      obtain ⟨j, rfl, h4⟩ := isI_inv h3
      obtain ⟨k, rfl, n, h5, h6⟩ := isI_inv h4
      cases r; cases r'; cases r''
      exact ⟨i, j, k, n, rfl, h5, L _ _ _ _ _ h6 g1 hr1 itRc_ok⟩
theorem itET_ok {K : PySem.W.Frag} {H0 : Hp} {p : Addr} {xs : List V} {l : List D} (s : SqT K H0 p xs) (q : Reps K H0 xs l) : ItOk K H0 (IteT K p) (enumD l) fun _ => True := by
  refine ⟨fun i H M d g hr k e => ?_, fun i H M g hr k hl0 => (fun hl => ?_) (Nat.le_of_eq hl0.symm)⟩
  · obtain ⟨x, hx, rfl⟩ := enumD_get e
    obtain ⟨v, hv, r⟩ := (q.mono g).get hx
    refine ⟨⟨xs, v, g.tup _ _ s, hv⟩, fun y H' z => ?_⟩
    obtain ⟨T, w, rfl, n, rfl, f⟩ := z
    have := f xs (g.tup _ _ s)
    rw [hv] at this
    cases this
    exact new_tup hr n (.cons (.int _) (.cons r .nil))
  · rw [enumD_length] at hl
    exact ⟨xs, g.tup _ _ s, by rw [q.length]; exact hl⟩
theorem li_enum {elts : List Expr} {kk : Nat} {tpos : Pos} (ha : PE X a (lift X.K ta)) (hg : Gl X "enumerate") (hm : X.mg "enumerate" = none) (he : starEach [a] X.env = (false, eval a X.env) :: starEach [] X.env) :
    PI X (.Tuple elts kk tpos) (.Call (.Name "enumerate" p) [a] [] pos) (liftI X.K fun τ M R => ta τ M fun d M1 => enum3 d M1 R) :=
  PIw (pi_enumA hg hm (la_cons ha la_nil he) he) fun σ H R h => by
    obtain ⟨τ, M, R3, hr, sl, h, L⟩ := h
    refine ⟨τ, M, fun ds M1 => one ds fun d => enum3 d M1 R3, hr, sl, h, fun vs H1 ds M1 h1 g1 hr1 r1 _ => ?_⟩
    obtain ⟨d, rfl, h2⟩ := one_inv h1
    obtain ⟨v, rfl, r⟩ := Reps1 r1
    unfold enum3 seqI at h2
    cases r with
    | tup s q => exact ⟨_, _, rfl, .inr ⟨s, L _ _ _ _ _ h2 g1 hr1 (itET_ok s q)⟩⟩
    | cl s q => exact ⟨_, _, rfl, .inl ⟨s.l, L _ _ _ _ _ h2 g1 hr1 (itE_ok fun H M g hr _ => ⟨_, (g.cl _ _ s).l, q.mono g⟩)⟩⟩
    | ref p =>
      dsimp only at h2
      split at h2
      · rename_i l e
        obtain ⟨xs, hx, q⟩ := hr1.list e
        exact ⟨_, _, rfl, .inl ⟨SqL.of hx, L _ _ _ _ _ h2 g1 hr1 (itE_ok fun H M g hr k => let ⟨ys, hy, q'⟩ := hr.list k; ⟨ys, SqL.of hy, q'⟩)⟩⟩
      · exact h2.elim
    | _ => exact h2.elim
theorem seqI_list {K : PySem.W.Frag} {d : D} {v : V} {M : Mp} {H : Hp} {R : List D → (Mp → Prop) → Mp → Prop} (h : seqI d M R) (hr : HR K M H) (r : Rep K H v d) (nt : ∀ l, d ≠ .tup l) :
    ∃ a xs ds keep, v = .ref a ∧ SqL K H a xs ∧ Reps K H xs ds ∧ R ds keep M ∧ ∀ H' M', Grow K H H' → HR K M' H' → keep M' → ∃ ys, SqL K H' a ys ∧ Reps K H' ys ds := by
  unfold seqI at h
  cases r with
  | tup s q => exact absurd rfl (nt _)
  | cl s q => exact ⟨_, _, _, _, rfl, s.l, q, h, fun H' M' g _ _ => ⟨_, (g.cl _ _ s).l, q.mono g⟩⟩
  | ref p =>
    dsimp only at h
    split at h
    · rename_i l e
      obtain ⟨xs, hx, q⟩ := hr.list e
      exact ⟨_, _, _, _, rfl, SqL.of hx, q, h, fun H' M' g hr' k => let ⟨ys, hy, q'⟩ := hr'.list k; ⟨ys, SqL.of hy, q'⟩⟩
    · exact h.elim
  | _ => exact h.elim
/-- what is walked over: a list or a tuple that stands -/
theorem seqI_kind {K : PySem.W.Frag} {d : D} {v : V} {M : Mp} {H : Hp} {R : List D → (Mp → Prop) → Mp → Prop} (h : seqI d M R) (hr : HR K M H) (r : Rep K H v d) :
    ∃ k a xs ds keep, v = .ref a ∧ SqK K H k a xs ∧ Reps K H xs ds ∧ R ds keep M ∧ ∀ H' M', Grow K H H' → HR K M' H' → keep M' → ∃ us, SqK K H' k a us ∧ Reps K H' us ds := by
  by_cases t : ∃ l, d = .tup l
  · obtain ⟨l, rfl⟩ := t
    cases r with
    | tup s q => exact ⟨true, _, _, _, _, rfl, s, q, h, fun H' M' g _ _ => ⟨_, g.tup _ _ s, q.mono g⟩⟩
  · obtain ⟨a, xs, ds, keep, e, s, q, h4, k1⟩ := seqI_list h hr r (fun l e => t ⟨l, e⟩)
    exact ⟨false, a, xs, ds, keep, e, s, q, h4, fun H' M' g hr' k => let ⟨us, u1, u2⟩ := k1 H' M' g hr' k; ⟨us, u1, u2⟩⟩
theorem zip3_all {d e : D} {M : Mp} {R : List D → (Mp → Prop) → Mp → Prop} (h : zip3 d e M R) : (∃ l m, d = .tup l ∧ e = .tup m ∧ R (zipD l m) (fun _ => True) M) ∨ seqI d M fun ds keep M3 => seqI e M3 fun es keep' M4 => R (zipD ds es) (fun M => keep M ∧ keep' M) M4 := by
  cases d <;> cases e <;> first
    | exact .inl ⟨_, _, rfl, rfl, h⟩
    | exact .inr h
theorem li_zip {elts : List Expr} {kk : Nat} {tpos : Pos} (ha : PE X a (lift X.K ta)) (hb : PE X b (lift X.K tb)) (hg : Gl X "zip") (hm : X.mg "zip" = none) (he : starEach [a, b] X.env = (false, eval a X.env) :: starEach [b] X.env) (he2 : starEach [b] X.env = (false, eval b X.env) :: starEach [] X.env)
    (hpl : (backTo pos (starEach [b] X.env)).any (·.1) = false) :
    PI X (.Tuple elts kk tpos) (.Call (.Name "zip" p) [a, b] [] pos) (liftI X.K fun τ M R => ta τ M fun d M1 => tb τ M1 fun e M2 => zip3 d e M2 R) :=
  PIw (pi_zipK hg hm (la_cons ha (la_cons hb la_nil he2) he) he hpl) fun σ H R h => by
    obtain ⟨τ, M, R3, hr, sl, h, L⟩ := h
    refine ⟨τ, M, fun ds M2 => two ds fun d e => zip3 d e M2 R3, hr, sl, h, fun vs H1 ds M1 h1 g1 hr1 r1 _ => ?_⟩
    obtain ⟨d, e, rfl, h2⟩ := two_inv h1
    obtain ⟨v, w, rfl, r, r'⟩ := Reps2 r1
    rcases zip3_all h2 with ⟨l, m, rfl, rfl, h3⟩ | h3
    · cases r with
      | tup s q =>
        cases r' with
        | tup s' q' => exact ⟨true, true, _, _, _, _, rfl, s, s', L _ _ _ _ _ h3 g1 hr1 (itZK_ok fun H M g hr k => ⟨_, _, g.tup _ _ s, q.mono g, g.tup _ _ s', q'.mono g⟩)⟩
    · obtain ⟨k1, a1, xs, ds, keep, rfl, s, q, h4, z1⟩ := seqI_kind h3 hr1 r
      obtain ⟨k2, b1, ys, es, keep', rfl, s', q', h5, z2⟩ := seqI_kind h4 hr1 r'
      exact ⟨k1, k2, _, _, _, _, rfl, s, s', L _ _ _ _ _ h5 g1 hr1 (itZK_ok fun H M g hr k => let ⟨us, u1, u2⟩ := z1 H M g hr k.1; let ⟨ws, w1, w2⟩ := z2 H M g hr k.2; ⟨us, ws, u1, u2, w1, w2⟩)⟩
theorem zipD3_get {l m n : List D} {i : Nat} {d : D} (h : (zipD3 l m n)[i]? = some d) : ∃ x y z, l[i]? = some x ∧ m[i]? = some y ∧ n[i]? = some z ∧ d = .tup [x, y, z] := by
  unfold zipD3 at h
  rw [List.getElem?_map] at h
  cases e : (l.zip (m.zip n))[i]? with
  | none => rw [e] at h; cases h
  | some z =>
    rw [e] at h
    cases h
    obtain ⟨x, y, z⟩ := z
    obtain ⟨h1, h2⟩ := List.getElem?_zip_eq_some.mp e
    obtain ⟨h3, h4⟩ := List.getElem?_zip_eq_some.mp h2
    exact ⟨x, y, z, h1, h3, h4, rfl⟩
theorem zipD3_length {l m n : List D} : (zipD3 l m n).length = min (min l.length m.length) n.length := by unfold zipD3; rw [List.length_map, List.length_zip, List.length_zip]; omega
theorem itZK3_ok {K : PySem.W.Frag} {H0 : Hp} {k1 k2 k3 : Bool} {p p' p'' : Addr} {l m n : List D} {keep : Mp → Prop} (hk : ∀ H M, Grow K H0 H → HR K M H → keep M → ∃ xs ys us, SqK K H k1 p xs ∧ Reps K H xs l ∧ SqK K H k2 p' ys ∧ Reps K H ys m ∧ SqK K H k3 p'' us ∧ Reps K H us n) : ItOk K H0 (ItzK3 K k1 k2 k3 p p' p'') (zipD3 l m n) keep := by
  refine ⟨fun i H M d g hr k e => ?_, fun i H M g hr k hl => ?_⟩
  · obtain ⟨xs, ys, us, s, q, s', q', s'', q''⟩ := hk H M g hr k
    obtain ⟨x, y, z, hx, hy, hz, rfl⟩ := zipD3_get e
    obtain ⟨v, hv, r⟩ := q.get hx
    obtain ⟨v', hv', r'⟩ := q'.get hy
    obtain ⟨v'', hv'', r''⟩ := q''.get hz
    refine ⟨⟨xs, ys, us, v, v', v'', s, s', s'', hv, hv', hv''⟩, fun z H' zz => ?_⟩
    obtain ⟨T, w, w', w'', rfl, n, rfl, f, f', f''⟩ := zz
    have e1 := f xs s
    have e2 := f' ys s'
    have e3 := f'' us s''
    rw [hv] at e1
    rw [hv'] at e2
    rw [hv''] at e3
    cases e1; cases e2; cases e3
    exact new_tup hr n (.cons r (.cons r' (.cons r'' .nil)))
  · obtain ⟨xs, ys, us, s, q, s', q', s'', q''⟩ := hk H M g hr k
    rw [zipD3_length] at hl
    exact ⟨xs, ys, us, s, s', s'', by rw [q.length, q'.length, q''.length]; omega⟩
theorem li_zip3 {elts : List Expr} {kk : Nat} {tpos : Pos} (ha : PE X a (lift X.K ta)) (hb : PE X b (lift X.K tb)) (hc : PE X c (lift X.K tc)) (hg : Gl X "zip") (hm : X.mg "zip" = none) (he : starEach [a, b, c] X.env = (false, eval a X.env) :: starEach [b, c] X.env) (he2 : starEach [b, c] X.env = (false, eval b X.env) :: starEach [c] X.env)
    (he3 : starEach [c] X.env = (false, eval c X.env) :: starEach [] X.env) (hpl : (backTo pos (starEach [b, c] X.env)).any (·.1) = false) :
    PI X (.Tuple elts kk tpos) (.Call (.Name "zip" p) [a, b, c] [] pos) (liftI X.K fun τ M R => ta τ M fun d M1 => tb τ M1 fun e M2 => tc τ M2 fun f M3 => seqI d M3 fun ds k M4 => seqI e M4 fun es k' M5 => seqI f M5 fun fs k'' M6 => R (zipD3 ds es fs) (fun M => k M ∧ k' M ∧ k'' M) M6) :=
  PIw (pi_zipK3 hg hm (la_cons ha (la_cons hb (la_cons hc la_nil he3) he2) he) he hpl) fun σ H R h => by
    obtain ⟨τ, M, R3, hr, sl, h, L⟩ := h
    refine ⟨τ, M, fun ds M3 => three ds fun d e f => seqI d M3 fun ds k M4 => seqI e M4 fun es k' M5 => seqI f M5 fun fs k'' M6 => R3 (zipD3 ds es fs) (fun M => k M ∧ k' M ∧ k'' M) M6, hr, sl, h, fun vs H1 ds M1 h1 g1 hr1 r1 _ => ?_⟩
    obtain ⟨d, e, f, rfl, h2⟩ := three_inv h1
    cases r1 with
    | cons r r1 =>
      obtain ⟨w, w', rfl, r', r''⟩ := Reps2 r1
      obtain ⟨k1, a1, xs, ds, keep, rfl, s, q, h4, z1⟩ := seqI_kind h2 hr1 r
      obtain ⟨k2, b1, ys, es, keep', rfl, s', q', h5, z2⟩ := seqI_kind h4 hr1 r'
      obtain ⟨k3, c1, us, fs, keep'', rfl, s'', q'', h6, z3⟩ := seqI_kind h5 hr1 r''
      exact ⟨k1, k2, k3, _, _, _, _, _, _, rfl, s, s', s'', L _ _ _ _ _ h6 g1 hr1 (itZK3_ok fun H M g hr k => let ⟨us, u1, u2⟩ := z1 H M g hr k.1; let ⟨ws, w1, w2⟩ := z2 H M g hr k.2.1; let ⟨ts, t1, t2⟩ := z3 H M g hr k.2.2; ⟨us, ws, ts, u1, u2, w1, w2, t1, t2⟩)⟩
/-! ### targets -/
/-- (a, b, ..) = a tuple or a list of that length -/
def gUn (K : PySem.W.Frag) (n : Nat) (t : TGs) : TG := fun v σ H Q => gTup K n t v σ H Q ∨ gUnl K n t v σ H Q
theorem pg_un {es : List Expr} {k : Nat} {t : TGs} {n : Nat} (hc : X.calm = true) (h : PGs X es t) (hn : (assignEach es X.env).length = n) (hst : (assignEach es X.env).findIdx? (·.1) = none) : PG X (.Tuple es k pos) (gUn X.K n t) :=
  ⟨fun pins s σ H v u Q I r hw => hw.elim (fun hw => (pg_tup hc h hn hst).run pins s σ H v u Q I r hw) fun hw => (pg_unl hc h hn hst).run pins s σ H v u Q I r hw⟩
mutual
def gOf (K : PySem.W.Frag) : Tn → TG
  | .nm i => gName i
  | .tup ts => gUn K (lenN ts) (gsOf K ts)
def gsOf (K : PySem.W.Frag) : TnL → TGs
  | .nil => gNil
  | .cons t ts => gCons (gOf K t) (gsOf K ts)
def lenN : TnL → Nat
  | .nil => 0
  | .cons _ ts => lenN ts + 1
end
mutual
/-- all names lie in vs -/
def inN (vs : List Nat) : Tn → Bool
  | .nm i => vs.contains i
  | .tup ts => inNs vs ts
def inNs (vs : List Nat) : TnL → Bool
  | .nil => true
  | .cons t ts => inN vs t && inNs vs ts
end
theorem wpGs_length : ∀ (ts : TnL) {l : List D} {M : Mp} {τ : S3} {Q : S3 → Prop}, wpGs ts l M τ Q → l.length = lenN ts
  | .nil, l, M, τ, Q, h => by rw [h.1]; rfl
  | .cons t ts, [], M, τ, Q, h => h.elim
  | .cons t ts, d :: r, M, τ, Q, h => by
    have key : ∀ (t : Tn) {d : D} {M : Mp} {τ : S3} {P : S3 → Prop}, wpG t d M τ P → ∃ τ', P τ' := wpG_ex
    obtain ⟨τ', h'⟩ := key t h
    rw [List.length_cons, wpGs_length ts h']; rfl
where
  wpG_ex : ∀ (t : Tn) {d : D} {M : Mp} {τ : S3} {P : S3 → Prop}, wpG t d M τ P → ∃ τ', P τ'
    | .nm i, d, M, τ, P, h => ⟨_, h⟩
    | .tup ts, d, M, τ, P, h => by
      unfold wpG at h
      split at h
      · exact wpGs_ex ts h
      · exact wpGs_ex ts h
      · exact wpGs_ex ts h
      · split at h
        · exact wpGs_ex ts h
        · exact h.elim
      · exact h.elim
  wpGs_ex : ∀ (ts : TnL) {l : List D} {M : Mp} {τ : S3} {P : S3 → Prop}, wpGs ts l M τ P → ∃ τ', P τ'
    | .nil, l, M, τ, P, h => ⟨_, h.2⟩
    | .cons t ts, [], M, τ, P, h => h.elim
    | .cons t ts, d :: r, M, τ, P, h => by
      obtain ⟨τ', h'⟩ := wpG_ex t h
      exact wpGs_ex ts h'
end
end G3
set_option Elab.async false
set_option linter.all false
set_option maxRecDepth 100000
set_option maxHeartbeats 4000000
namespace G3
open PySem PySem.Spec PyProof.Rows L2
theorem wipe_set {σ : L2.St} {i : Nat} {o : Option V} : ∀ (vs : List Nat), i ∈ vs → wipe (σ.set i o) vs = wipe σ vs := by
  have com : ∀ (vs : List Nat) (σ : L2.St), wipe (σ.set i o) vs = if i ∈ vs then wipe σ vs else (wipe σ vs).set i o := by
    intro vs
    induction vs with
    | nil => intro σ; simp [wipe]
    | cons v vs ih =>
      intro σ
      unfold wipe
      rw [ih σ]
      by_cases h : i ∈ vs
      · simp [h]
      · by_cases e : i = v
        · subst e; simp [h, List.set_set]
        · simp [h, e, List.set_comm o none e]
  intro vs h
  rw [com vs σ, if_pos h]
theorem slots_wipe {K : PySem.W.Frag} {H : Hp} {σ : L2.St} {τ : S3} (s : Slots K H σ τ) : ∀ vs : List Nat, Slots K H (wipe σ vs) (wipe3 τ vs)
  | [] => s
  | v :: vs => (slots_wipe s vs).clear v
section
variable {K : PySem.W.Frag}
mutual
theorem gOf_ok {H : Hp} {vs : List Nat} {W : L2.St} : ∀ (t : Tn) {d : D} {v : V} {M : Mp} {τ : S3} {σ : L2.St} {P : S3 → Prop} {Q : L2.St → Hp → Prop}, HR K M H → Rep K H v d → Slots K H σ τ → wpG t d M τ P →
    (∀ σ2 τ2, P τ2 → Slots K H σ2 τ2 → (inN vs t = true → wipe σ vs = W → wipe σ2 vs = W) → Q σ2 H) → gOf K t v σ H Q
  | .nm i, d, v, M, τ, σ, P, Q, _, r, s, h, q => q _ _ h (s.set r i) fun hi e => by
    rw [wipe_set vs (by simpa [inN] using hi)]; exact e
  | .tup ts, d, v, M, τ, σ, P, Q, hr, r, s, h, q => by
    unfold wpG at h
    cases r with
    | tup s1 q1 =>
      refine .inl ⟨_, _, rfl, s1, ?_, gsOf_ok (vs := vs) (W := W) ts hr q1 s h q⟩
      rw [q1.length]
      exact wpGs_length ts h
    | kt s1 q1 =>
      refine .inl ⟨_, _, rfl, SqT.of s1, ?_, gsOf_ok (vs := vs) (W := W) ts hr q1 s h q⟩
      rw [q1.length]
      exact wpGs_length ts h
    | cl s1 q1 =>
      refine .inr ⟨_, _, rfl, s1.l, ?_, gsOf_ok (vs := vs) (W := W) ts hr q1 s h q⟩
      rw [q1.length]
      exact wpGs_length ts h
    | ref p =>
      dsimp only at h
      split at h
      · rename_i l e
        obtain ⟨xs, hx, q1⟩ := hr.list e
        refine .inr ⟨_, _, rfl, SqL.of hx, ?_, gsOf_ok (vs := vs) (W := W) ts hr q1 s h q⟩
        rw [q1.length]
        exact wpGs_length ts h
      · exact h.elim
    | _ => exact h.elim
theorem gsOf_ok {H : Hp} {vs : List Nat} {W : L2.St} : ∀ (ts : TnL) {ds : List D} {us : List V} {M : Mp} {τ : S3} {σ : L2.St} {P : S3 → Prop} {Q : L2.St → Hp → Prop}, HR K M H → Reps K H us ds → Slots K H σ τ → wpGs ts ds M τ P →
    (∀ σ2 τ2, P τ2 → Slots K H σ2 τ2 → (inNs vs ts = true → wipe σ vs = W → wipe σ2 vs = W) → Q σ2 H) → gsOf K ts us σ H Q
  | .nil, ds, us, M, τ, σ, P, Q, _, r, s, h, q => by
    obtain ⟨rfl, h⟩ := h
    cases r
    exact ⟨rfl, q _ _ h s fun _ e => e⟩
  | .cons t ts, [], us, M, τ, σ, P, Q, _, r, s, h, q => h.elim
  | .cons t ts, d :: ds, us, M, τ, σ, P, Q, hr, r, s, h, q => by
    cases r with
    | cons r rs =>
      refine ⟨_, _, rfl, gOf_ok (vs := vs) (W := W) t hr r s h fun σ1 τ1 h1 s1 e1 => gsOf_ok (vs := vs) (W := W) ts hr rs s1 h1 fun σ2 τ2 h2 s2 e2 => q σ2 τ2 h2 s2 fun hi e => ?_⟩
      unfold inNs at hi
      rw [Bool.and_eq_true] at hi
      exact e2 hi.2 (e1 hi.1 e)
end
/-! ### comprehensions -/
theorem tLc_of {ti : TI3} {tn : Tn} {vs : List Nat} {tt : TT3} {te : TE3} (hin : inN vs tn = true) {σ : L2.St} {H : Hp} {Q : VK} (h : lift K (fun τ M Q => ti τ M fun ds keep M1 => lcW ds keep tn vs tt te τ M1 Q) σ H Q) :
    tLc (liftI K ti) (gOf K tn) (liftT K tt) (lift K te) vs σ H Q := by
  obtain ⟨τ, M, Q3, hr, sl, h, L⟩ := h
  refine ⟨τ, M, _, hr, sl, h, fun J ds keep H1 M1 h1 g1 hr1 it D nD => ?_⟩
  obtain ⟨I, i0, turn⟩ := h1 D (hr1.none nD)
  refine ⟨fun i m H' => m = ds.length - i ∧ i ≤ ds.length ∧ Grow K H1 H' ∧ ∃ acc M', I i acc M' ∧ HR K M' H', ⟨_, rfl, Nat.zero_le _, .new nD, [], _, i0, hr1.putL (.new nD) .nil⟩, ?_⟩
  rintro i m H' ⟨rfl, hi, gH, acc, M', hI, hr'⟩
  obtain ⟨k, hD, step, fin⟩ := turn i acc M' hI hi
  by_cases hl : i < ds.length
  · refine .inr ?_
    have hd : ds[i]? = some ds[i] := List.getElem?_eq_getElem hl
    obtain ⟨go, yld⟩ := it.1 i H' M' _ gH hr' k hd
    refine ⟨go, fun H2 => i + 1 ≤ ds.length ∧ Grow K H1 H2 ∧ ∃ acc M', I (i + 1) acc M' ∧ HR K M' H2, fun H2 q => ⟨ds.length - (i + 1), by omega, rfl, q⟩, fun x H2 y => ?_⟩
    obtain ⟨g2, hr2, rx⟩ := yld x H2 y
    have gg := g1.trans (gH.trans g2)
    refine gOf_ok (vs := vs) (W := wipe σ vs) tn hr2 rx (slots_wipe (sl.mono gg) vs) (step _ hd) fun σ2 τ2 h2 s2 e2 => ⟨e2 hin ?_, τ2, M', _, hr2, s2, h2, fun b H3 M3 h3 g3 hr3 => ?_⟩
    · clear e2 s2 h2 step fin
      -- wiping twice is wiping once
      have com : ∀ (ws : List Nat) (v : Nat) (σ : L2.St), wipe (σ.set v none) ws = (wipe σ ws).set v none := by
        intro ws v
        induction ws with
        | nil => intro σ; rfl
        | cons w ws ih =>
          intro σ
          unfold wipe
          rw [ih]
          by_cases e : v = w
          · subst e; rfl
          · rw [List.set_comm _ _ e]
      have twice : ∀ ws : List Nat, wipe (wipe σ ws) ws = wipe σ ws := by
        intro ws
        induction ws with
        | nil => rfl
        | cons w ws ih =>
          show (wipe ((wipe σ ws).set w none) ws).set w none = (wipe σ ws).set w none
          rw [com, ih, List.set_set]
      exact twice vs
    · cases b with
      | false =>
        rw [if_neg Bool.false_ne_true] at h3 ⊢
        obtain ⟨M0, sb, hI'⟩ := h3
        exact ⟨hl, (gH.trans g2).trans g3, acc, M0, hI', hr3.sub sb⟩
      | true =>
        rw [if_pos rfl] at h3 ⊢
        refine ⟨τ2, M3, _, hr3, s2.mono g3, h3, fun w H4 y M4 h4 g4 hr4 ry => ?_⟩
        obtain ⟨hz, hD4, M0, sb, hI'⟩ := h4
        obtain ⟨xs, hx, qx⟩ := hr4.list hD4
        have g5 := Grow.lst (o := .lst (xs ++ [w])) (K := K) hx
        exact ⟨xs, hx, by rw [qx.length]; exact hz, hl, (((gH.trans g2).trans g3).trans g4).trans g5, acc ++ [y], M0, hI', (hr4.putL g5 (qx.snoc ry)).sub sb⟩
  · have e : i = ds.length := by omega
    obtain ⟨M0, sb, q⟩ := fin e
    exact .inl ⟨it.2 i H' M' gH hr' k (by omega), L _ _ _ _ q (g1.trans gH) (hr'.sub sb) (.ref D)⟩
end
section
variable {X : Cx} {a b c e : Expr} {ta tb tc te : TE3} {pos apos : Pos} {es : List Expr} {tr : TA3} {n : Nat}
theorem PTsw {ifs : List Expr} {t t' : TT} (h : PTs X ifs t') (w : ∀ σ H Q, t σ H Q → t' σ H Q) : PTs X ifs t := ⟨fun pins s σ H Q I q => h.run pins s σ H Q I (w σ H Q q)⟩
theorem lts_nil : PTs X [] (liftT X.K fun τ M Q => Q true M) := PTsw pts_nil fun σ H Q h => by
  obtain ⟨τ, M, Q3, hr, sl, h, L⟩ := h
  exact L _ _ _ h .refl hr
theorem le_lc {elt tg iter : Expr} {ifs : List Expr} {scope : Scope} {own : List (Str × Nat)} {ti : TI3} {tn : Tn} {tt : TT3} (hc : X.calm = true) (hN : X.N.Nodup) (hi : PI X tg iter (liftI X.K ti)) (ok : BlkOk X.N X.env.scope scope own)
    (hg : ∀ (s : Shared) (H : Hp) (C : Addr) (cl : List (Str × Addr)) (fp : List Addr), PG (X.blk s H scope (compEnvC scope cl C X.env) fp) tg (gOf X.K tn))
    (ht : ∀ (s : Shared) (H : Hp) (C : Addr) (cl : List (Str × Addr)) (fp : List Addr), PTs (X.blk s H scope (compEnvC scope cl C X.env) fp) ifs (liftT X.K tt))
    (he : ∀ (s : Shared) (H : Hp) (C : Addr) (cl : List (Str × Addr)) (fp : List Addr), PE (X.blk s H scope (compEnvC scope cl C X.env) fp) elt (lift X.K te)) (hs : ∀ x, foldedSetIterable iter X.env x = pure x) (hin : inN (own.map (·.2)) tn = true) :
    PE X (.ListComp elt [⟨tg, iter, ifs, 0⟩] scope pos) (lift X.K fun τ M Q => ti τ M fun ds keep M1 => lcW ds keep tn (own.map (·.2)) tt te τ M1 Q) :=
  PEw (pe_lc hc hN hi ok hg ht he hs) fun σ H Q h => tLc_of hin h
theorem ls_lc {i : Nat} {y : Str} {py spos : Pos} {elt tg iter : Expr} {ifs : List Expr} {scope : Scope} {own : List (Str × Nat)} {ti : TI3} {tn : Tn} {tt : TT3} (hc : X.calm = true) (hN : X.N.Nodup) (hy : X.N[i]? = some y) (hyl : X.env.scope.names.lookup y = some .local)
    (hsw : swapsWith (.ListComp elt [⟨tg, iter, ifs, 0⟩] scope pos) (some (.Name y py)) spos.line X.env = pure true) (hi : PI X tg iter (liftI X.K ti)) (ok : BlkOk X.N X.env.scope scope own)
    (hg : ∀ (s : Shared) (H : Hp) (C : Addr) (cl : List (Str × Addr)) (fp : List Addr), PG (X.blk s H scope (compEnvC scope cl C X.env) fp) tg (gOf X.K tn))
    (ht : ∀ (s : Shared) (H : Hp) (C : Addr) (cl : List (Str × Addr)) (fp : List Addr), PTs (X.blk s H scope (compEnvC scope cl C X.env) fp) ifs (liftT X.K tt))
    (he : ∀ (s : Shared) (H : Hp) (C : Addr) (cl : List (Str × Addr)) (fp : List Addr), PE (X.blk s H scope (compEnvC scope cl C X.env) fp) elt (lift X.K te)) (hs : ∀ x, foldedSetIterable iter X.env x = pure x) (hin : inN (own.map (·.2)) tn = true) :
    PS X (.Assign [.Name y py] (.ListComp elt [⟨tg, iter, ifs, 0⟩] scope pos) spos) (liftS X.K fun D τ M => ti τ M fun ds keep M1 => lcW ds keep tn (own.map (·.2)) tt te τ M1 fun d M2 => D.nx (τ.set i (some d)) M2) :=
  PSw (ps_setLc hc hN hy hyl hsw hi ok hg ht he hs) fun D σ H h => by
    obtain ⟨τ, M, D3, hr, sl, h, L⟩ := h
    exact tLc_of (Q := fun x H1 => gName i x σ H1 D.nx) hin ⟨τ, M, fun d M2 => D3.nx (τ.set i (some d)) M2, hr, sl, h, fun v H1 d M1 h1 g1 hr1 r1 => L.nx _ _ _ _ h1 g1 hr1 ((sl.mono g1).set r1 i)⟩
/-! ### statements -/
theorem ls_set {tn : Tn} {tg : Expr} (ha : PE X a (lift X.K ta)) (hg : PG X tg (gOf X.K tn)) (hs : swapsWithSole [tg] a pos.line X.env = pure false) (hw : swappedStores [tg] a X.env = pure none) (h1 : (assignEach [tg] X.env).map (·.2) = [assign tg X.env]) :
    PS X (.Assign [tg] a pos) (liftS X.K fun D τ M => ta τ M fun d M1 => wpG tn d M1 τ fun τ' => D.nx τ' M1) := PSw (ps_asg ha hg hs hw h1) fun D σ H h => by
  obtain ⟨τ, M, D3, hr, sl, h, L⟩ := h
  exact ⟨τ, M, _, hr, sl, h, fun v H1 d M1 h1 g1 hr1 r1 => gOf_ok (vs := []) (W := []) tn hr1 r1 (sl.mono g1) h1 fun σ2 τ2 h2 s2 _ => L.nx _ _ _ _ h2 g1 hr1 s2⟩
def liftSet (K : PySem.W.Frag) (r : D → D → D → Mp → (Mp → Prop) → Prop) : TSet := fun o i v H Q => ∃ d e x M Q3, HR K M H ∧ Rep K H o d ∧ Rep K H i e ∧ Rep K H v x ∧ r d e x M Q3 ∧ ∀ H' M', Q3 M' → Grow K H H' → HR K M' H' → Q H'
theorem putK_ok {K : PySem.W.Frag} {H : Hp} {k : Key} {v : V} {x : D} {xs : List (Key × V)} {l : List (Key × D)} (q : PK3 K H xs l) (r : Rep K H v x) : PK3 K H (putK xs k v) (putD l k x) := by
  have anyK : (xs.any fun kv => decide (kv.1 = k)) = l.any fun kv => decide (kv.1 = k) := by
    induction q with
    | nil => rfl
    | cons r _ ih => rw [List.any_cons, List.any_cons, ih, r.1]
  unfold putK putD
  rw [anyK]
  by_cases ha : (l.any fun kv => decide (kv.1 = k)) = true
  · rw [if_pos ha, if_pos ha]
    clear anyK ha
    induction q with
    | nil => exact .nil
    | @cons p p' _ _ r' _ ih =>
      refine .cons ?_ ih
      by_cases e : p.1 = k
      · have e' : p'.1 = k := r'.1.symm.trans e
        dsimp only
        rw [if_pos e, if_pos e']
        exact ⟨r'.1, r⟩
      · have e' : ¬ p'.1 = k := fun z => e (r'.1.trans z)
        dsimp only
        rw [if_neg e, if_neg e']
        exact r'
  · rw [if_neg ha, if_neg ha]
    clear anyK ha
    induction q with
    | nil => exact .cons ⟨rfl, r⟩ .nil
    | cons r' _ ih => exact .cons r' ih
theorem putT_ok {K : PySem.W.Frag} {H : Hp} {k : List Key} {v : V} {x : D} {xs : List (List Key × V)} {l : List (List Key × D)} (q : PT3 K H xs l) (r : Rep K H v x) : PT3 K H (putK xs k v) (putT l k x) := by
  have anyK : (xs.any fun kv => decide (kv.1 = k)) = l.any fun kv => decide (kv.1 = k) := by
    induction q with
    | nil => rfl
    | cons r _ ih => rw [List.any_cons, List.any_cons, ih, r.1]
  unfold putK putT
  rw [anyK]
  by_cases ha : (l.any fun kv => decide (kv.1 = k)) = true
  · rw [if_pos ha, if_pos ha]
    clear anyK ha
    induction q with
    | nil => exact .nil
    | @cons p p' _ _ r' _ ih =>
      refine .cons ?_ ih
      by_cases e : p.1 = k
      · have e' : p'.1 = k := r'.1.symm.trans e
        dsimp only
        rw [if_pos e, if_pos e']
        exact ⟨r'.1, r⟩
      · have e' : ¬ p'.1 = k := fun z => e (r'.1.trans z)
        dsimp only
        rw [if_neg e, if_neg e']
        exact r'
  · rw [if_neg ha, if_neg ha]
    clear anyK ha
    induction q with
    | nil => exact .cons ⟨rfl, r⟩ .nil
    | cons r' _ ih => exact .cons r' ih
theorem set_ok (hu : X.A.units + 64 < cLine) : PSet X (liftSet X.K set3) := by
  intro pins s σ H o i v ov iv u Q I ro ri rv h
  obtain ⟨d, e, x, M, Q3, hr, r1, r2, r3, h, L⟩ := h
  unfold set3 at h
  cases r1 with
  | ref p =>
    dsimp only at h
    split at h
    · rename_i l el
      obtain ⟨k, rfl, h⟩ := isI_inv h
      obtain ⟨j, ej, h⟩ := some3_inv h
      obtain ⟨xs, hx, q⟩ := hr.list el
      cases r2
      exact set_list pins s σ H _ _ _ ov iv u Q I ro ri rv ⟨_, _, _, j, rfl, rfl, hx, by rw [q.length]; exact ej, L _ _ h (.lst hx) (hr.putL (.lst hx) (q.set r3 j))⟩
    · rename_i l el
      obtain ⟨k, ek, hz, h⟩ := some3_inv h
      obtain ⟨xs, hx, q⟩ := hr.dic el
      have e2 := keyD_ok r2 ek
      subst e2
      obtain rfl : ov = Value.ref p := ro
      exact d_setItem (by omega) I (DPut.k hx (by rw [PK3.length q]; exact hz)) ri rv fun s' I' => ⟨_, I', L _ _ h (.dK hx) (hr.put (.dK hx) ⟨_, upd_same, Paired.mapP (putK_ok q r3) fun a b z => ⟨z.1, Rep.mono (.dK hx) _ z.2⟩⟩)⟩
    · rename_i l el
      obtain ⟨k, ek, hz, h⟩ := some3_inv h
      obtain ⟨xs, hx, q⟩ := hr.dit el
      obtain ⟨kb, rfl, hb⟩ := keyT_ok r2 ek
      obtain rfl : ov = Value.ref p := ro
      exact d_setItem (by omega) I (DPut.t hx hb (by rw [Paired.length q]; exact hz)) ri rv fun s' I' => ⟨_, I', L _ _ h (.dT hx) (hr.put (.dT hx) ⟨_, upd_same, Paired.mapP (putT_ok q r3) fun a b z => ⟨z.1, Rep.mono (.dT hx) _ z.2⟩⟩)⟩
    · exact h.elim
  | _ => exact h.elim
/-- o[i] read, by values -/
theorem get_ok (hu : X.A.units + 64 < cLine) : PGet X (lift2 X.K getR3) := by
  intro pins s σ H x y v u Q I rx ry h
  obtain ⟨d, e, M, Q3, hr, r1, r2, h, L⟩ := h
  have itemL : ∀ {p : Addr} {xs : List V} {l : List D} {i : Int} {z : D}, v = .ref p → SqL X.K H p xs → Reps X.K H xs l → (∃ t, u = .int i t) → atI l i = some z → Q3 z M → wpAny (model X.prog X.w) X.A (getItem v u) (EP X pins σ Q) X.xe s := by
    intro p xs l i z ev hs q eu ez q3
    subst ev
    obtain ⟨t, rfl⟩ := eu
    obtain ⟨w, hw, rw'⟩ := q.atI ez
    obtain ⟨its, r, pl, hz⟩ := I.list hs
    obtain ⟨j, h1, h2, h3, h4, h5⟩ := atI_get hw
    obtain ⟨wv, ew, rwv⟩ := r.get h2
    have hl := r.length
    have hn := line63
    have fin : EP X pins σ Q wv s := ⟨w, H, I, rwv, L.here hr rw' q3⟩
    by_cases h0 : 0 ≤ i
    · have hj : i.toNat = j := by
        rw [seqIndex_of h0 h5] at h1
        exact Option.some.inj h1
      exact wpAny_getItem_list pl.isList h0 (by omega) (by rw [hj]; simpa using ew) fin
    · have hj : (i + (its.toArray.size : Int)).toNat = j := by
        rw [seqIndex_neg (by omega) h4] at h1
        rw [List.size_toArray, ← hl]
        exact Option.some.inj h1
      exact wpAny_getItem_list_neg pl.isList (by omega) (by rw [List.size_toArray] <;> omega) (by omega) (by rw [hj]; simpa using ew) fin
  unfold getR3 at h
  cases r1 with
  | ref p =>
    unfold ix3 at h
    dsimp only at h
    split at h
    · rename_i l e1
      obtain ⟨xs, hx, q1⟩ := hr.list e1
      cases r2 <;> try exact h.elim
      dsimp only at h
      split at h
      · rename_i z hz
        exact itemL rx (SqL.of hx) q1 ry hz h
      · exact h.elim
    · rename_i l e1
      obtain ⟨xs, hx, q1⟩ := hr.dic e1
      split at h
      · rename_i k ek
        split at h
        · rename_i z hz
          have e2 := keyD_ok r2 ek
          subst e2
          obtain rfl : v = Value.ref p := rx
          rcases getK_ok (k := k) q1 with ⟨z1, z2⟩ | ⟨w, d', z1, z2, rw'⟩
          · rw [hz] at z2; cases z2
          · rw [hz] at z2; cases z2
            exact d_getItem (by omega) I (by rw [← z1]; exact DGet.k hx) ry fun w' s3 I3 rw3 => ⟨w, H, I3, rw3, L.here hr rw' h⟩
        · exact h.elim
      · exact h.elim
    · rename_i l e1
      obtain ⟨xs, hx, q1⟩ := hr.dit e1
      split at h
      · rename_i k ek
        split at h
        · rename_i z hz
          obtain ⟨kb, rfl, hb⟩ := keyT_ok r2 ek
          obtain rfl : v = Value.ref p := rx
          rcases getT_ok (k := k) q1 with ⟨z1, z2⟩ | ⟨w, d', z1, z2, rw'⟩
          · rw [hz] at z2; cases z2
          · rw [hz] at z2; cases z2
            exact d_getItem (by omega) I (by rw [← z1]; exact DGet.t hx hb) ry fun w' s3 I3 rw3 => ⟨w, H, I3, rw3, L.here hr rw' h⟩
        · exact h.elim
      · exact h.elim
    · exact h.elim
  | _ => exact h.elim
theorem aug_ok : ∀ b : Bop, PIp X b.op (lift2 X.K (aug3 b)) := by
  intro b pins s σ H x y v u Q I rx ry h
  obtain ⟨d, e, M, Q3, hr, r1, r2, h, L⟩ := h
  cases b with
  | add =>
    cases d <;> cases e <;> try exact False.elim h
    · cases r1; cases r2; exact iop_add pins s σ H _ _ v u Q I rx ry ⟨_, _, rfl, rfl, L.here hr (.int _) h⟩
    · cases r1; cases r2; exact iop_add_str pins s σ H _ _ v u Q I rx ry ⟨_, _, rfl, rfl, h.1, L.here hr (.str _) h.2⟩
    · cases r1; cases r2
      unfold aug3 at h
      dsimp only at h
      split at h
      · rename_i l m e1 e2
        obtain ⟨xs, hx, qx⟩ := hr.list (getL_some e1)
        obtain ⟨ys, hy, qy⟩ := hr.list (getL_some e2)
        exact iop_ext pins s σ H _ _ v u Q I rx ry ⟨_, _, _, _, rfl, rfl, hx, hy, by rw [qx.length, qy.length]; exact h.1, L _ _ _ _ h.2 (.lst hx) (hr.putL (.lst hx) (qx.append qy)) (.ref _)⟩
      · exact h.elim
  | sub =>
    cases d <;> cases e <;> try exact False.elim h
    cases r1; cases r2; exact iop_sub pins s σ H _ _ v u Q I rx ry ⟨_, _, rfl, rfl, L.here hr (.int _) h⟩
  | mul =>
    cases d <;> cases e <;> try exact False.elim h
    cases r1; cases r2; exact iop_mul pins s σ H _ _ v u Q I rx ry ⟨_, _, rfl, rfl, h.1, L.here hr (.int _) h.2⟩
  | fdiv =>
    cases d <;> cases e <;> try exact False.elim h
    cases r1; cases r2; exact iop_fdiv pins s σ H _ _ v u Q I rx ry ⟨_, _, rfl, rfl, h.1, L.here hr (.int _) h.2⟩
  | mod =>
    cases d <;> cases e <;> try exact False.elim h
    cases r1; cases r2; exact iop_mod pins s σ H _ _ v u Q I rx ry ⟨_, _, rfl, rfl, h.1, L.here hr (.int _) h.2⟩
  | pow => cases d <;> cases e <;> exact False.elim h
  | shl => cases d <;> cases e <;> exact False.elim h
  | shr => cases d <;> cases e <;> exact False.elim h
  | fdivn => cases d <;> cases e <;> exact False.elim h
variable {i : Expr} {ti' : TE3}
theorem le_setSub {p' : Pos} (hu : X.A.units + 64 < cLine) (hv : PE X e (lift X.K te)) (ho : PE X a (lift X.K ta)) (hi : PE X i (lift X.K ti')) (hs : swapsWithSole [.Subscript a i p'] e pos.line X.env = pure false) (hw : swappedStores [.Subscript a i p'] e X.env = pure none)
    (has : ∀ v, assign (.Subscript a i p') X.env v = (do
      let ov ← holding [v] (eval a X.env)
      let iv ← holding [v, ov] (eval i X.env)
      standAt p'
      holding [v, ov, iv] (setItem ov iv v)
      release [v, ov, iv] [])) :
    PS X (.Assign [.Subscript a i p'] e pos) (liftS X.K fun D τ M => te τ M fun x M1 => ta τ M1 fun d M2 => ti' τ M2 fun y M3 => set3 d y x M3 fun M4 => D.nx τ M4) :=
  PSw (ps_asg hv (pg_sub ho hi (set_ok hu) has) hs hw rfl) fun D σ H h => by
    obtain ⟨τ, M, D3, hr, sl, h, L⟩ := h
    exact ⟨τ, M, _, hr, sl, h, fun v H1 d M1 h1 g1 hr1 r1 => ⟨τ, M1, _, hr1, sl.mono g1, h1, fun w H2 e M2 h2 g2 hr2 r2 => ⟨τ, M2, _, hr2, sl.mono (g1.trans g2), h2, fun u H3 f M3 h3 g3 hr3 r3 =>
      ⟨e, f, d, M3, _, hr3, Rep.mono g3 _ r2, r3, Rep.mono (g2.trans g3) _ r1, h3, fun H4 M4 h4 g4 hr4 => L.nx _ _ _ _ h4 (((g1.trans g2).trans g3).trans g4) hr4 (sl.mono (((g1.trans g2).trans g3).trans g4))⟩⟩⟩⟩
def tw2 (z : D) (f : D → D → Prop) : Prop := match z with
  | .tup [d, e] => f d e
  | _ => False
theorem tw2_inv {z : D} {f : D → D → Prop} (h : tw2 z f) : ∃ d e, z = .tup [d, e] ∧ f d e := by
  unfold tw2 at h
  split at h
  · exact ⟨_, _, rfl, h⟩
  · exact h.elim
theorem ls_swp {i' j' u v b2 : Expr} {ti2 tj tu tv tb2 : TE3} {pa pb pt pt2 : Pos} {kt k2 : Nat} (hc : X.calm = true) (hu : X.A.units + 64 < cLine) (hE : PE X (.Tuple [u, v] k2 pt2) (lift X.K fun τ M Q => tu τ M fun d M1 => tv τ M1 fun e M2 => Q (.tup [d, e]) M2))
    (ho : PE X a (lift X.K ta)) (hi : PE X i' (lift X.K ti2)) (ho2 : PE X b2 (lift X.K tb2)) (hj : PE X j' (lift X.K tj)) (hs : swapsWithSole [.Tuple [.Subscript a i' pa, .Subscript b2 j' pb] kt pt] (.Tuple [u, v] k2 pt2) pos.line X.env = pure false) (hw : swappedStores [.Tuple [.Subscript a i' pa, .Subscript b2 j' pb] kt pt] (.Tuple [u, v] k2 pt2) X.env = pure none)
    (has : ∀ v, assign (.Subscript a i' pa) X.env v = (do
      let ov ← holding [v] (eval a X.env)
      let iv ← holding [v, ov] (eval i' X.env)
      standAt pa
      holding [v, ov, iv] (setItem ov iv v)
      release [v, ov, iv] []))
    (has2 : ∀ v, assign (.Subscript b2 j' pb) X.env v = (do
      let ov ← holding [v] (eval b2 X.env)
      let iv ← holding [v, ov] (eval j' X.env)
      standAt pb
      holding [v, ov, iv] (setItem ov iv v)
      release [v, ov, iv] [])) :
    PS X (.Assign [.Tuple [.Subscript a i' pa, .Subscript b2 j' pb] kt pt] (.Tuple [u, v] k2 pt2) pos) (liftS X.K fun D τ M => tu τ M fun d M1 => tv τ M1 fun e M2 => ta τ M2 fun p M3 => ti2 τ M3 fun x M4 => set3 p x d M4 fun M5 => tb2 τ M5 fun q M6 => tj τ M6 fun y M7 => set3 q y e M7 fun M8 => D.nx τ M8) :=
  PSw (ps_asg hE (pg_tup hc (pgs_cons (pg_sub ho hi (set_ok hu) has) (pgs_cons (pg_sub ho2 hj (set_ok hu) has2) pgs_nil)) rfl rfl) hs hw rfl) fun D σ H h => by
    obtain ⟨τ, M, D3, hr, sl, h, L⟩ := h
    refine ⟨τ, M, fun z M2 => tw2 z fun d e => ta τ M2 fun p M3 => ti2 τ M3 fun x M4 => set3 p x d M4 fun M5 => tb2 τ M5 fun q M6 => tj τ M6 fun y M7 => set3 q y e M7 fun M8 => D3.nx τ M8, hr, sl, h, fun v H1 z M1 h1 g1 hr1 r1 => ?_⟩
    · obtain ⟨d, e, rfl, h1⟩ := tw2_inv h1
      cases r1 with
      | tup s q =>
        obtain ⟨w1, w2, rfl, rd, re⟩ := Reps2 q
        refine ⟨_, _, rfl, s, rfl, w1, [w2], rfl, ⟨τ, M1, _, hr1, sl.mono g1, h1, fun p1 H2 p M2 h2 g2 hr2 rp => ⟨τ, M2, _, hr2, sl.mono (g1.trans g2), h2, fun x1 H3 x M3 h3 g3 hr3 rx => ⟨p, x, d, M3, _, hr3, Rep.mono g3 _ rp, rx, Rep.mono (g2.trans g3) _ rd, h3, fun H4 M4 h4 g4 hr4 => ?_⟩⟩⟩⟩
        have G4 := ((g1.trans g2).trans g3).trans g4
        refine ⟨w2, [], rfl, ⟨τ, M4, _, hr4, sl.mono G4, h4, fun q1 H5 q M5 h5 g5 hr5 rq => ⟨τ, M5, _, hr5, sl.mono (G4.trans g5), h5, fun y1 H6 y M6 h6 g6 hr6 ry => ⟨q, y, e, M6, _, hr6, Rep.mono g6 _ rq, ry, Rep.mono ((((g2.trans g3).trans g4).trans g5).trans g6) _ re, h6, fun H7 M7 h7 g7 hr7 => ?_⟩⟩⟩⟩
        have G7 := ((G4.trans g5).trans g6).trans g7
        exact ⟨rfl, L.nx _ _ _ _ h7 G7 hr7 (sl.mono G7)⟩
theorem ls_aug {j : Nat} {x : Str} {o : Bop} {p' : Pos} (hN : X.N.Nodup) (hj : X.N[j]? = some x) (hx : Loc X.env.scope x) (he : PE X e (lift X.K te)) (hf : X.fn x = true ∨ X.env.scope.names.lookup x = some .local) :
    PS X (.AugAssign (.Name x p') o.op e pos) (liftS X.K fun D τ M => some3 τ[j]? fun o' => some3 o' fun x => te τ M fun y M1 => aug3 o x y M1 fun z M2 => D.nx (τ.set j (some z)) M2) :=
  PSw (ps_aug hN hj hx he (aug_ok o) hf) fun D σ H h => by
    obtain ⟨τ, M, D3, hr, sl, h, L⟩ := h
    obtain ⟨oo, e1, h⟩ := some3_inv h
    obtain ⟨d, rfl, h⟩ := some3_inv h
    obtain ⟨v, ev, rv⟩ := sl.get e1
    exact ⟨v, ev, τ, M, _, hr, sl, h, fun w H1 f M1 h1 g1 hr1 r1 => ⟨d, f, M1, _, hr1, Rep.mono g1 _ rv, r1, h1, fun u H2 z M2 h2 g2 hr2 r2 => L.nx _ _ _ _ h2 (g1.trans g2) hr2 ((sl.mono (g1.trans g2)).set r2 j)⟩⟩
theorem ls_augSub {o : Bop} {p' : Pos} (hu : X.A.units + 64 < cLine) (ho : PE X a (lift X.K ta)) (hi : PE X i (lift X.K ti')) (he : PE X e (lift X.K te))
    (hst : ∀ ov iv new, augStore i ov iv new = (do holding [new, ov, iv] (setItem ov iv new); release [new, ov, iv] []; pure .next)) :
    PS X (.AugAssign (.Subscript a i p') o.op e pos) (liftS X.K fun D τ M => ta τ M fun d M1 => ti' τ M1 fun k M2 => getR3 d k M2 fun x M3 => te τ M3 fun y M4 => aug3 o x y M4 fun z M5 => set3 d k z M5 fun M6 => D.nx τ M6) :=
  PSw (ps_augS ho hi (get_ok hu) he (aug_ok o) (set_ok hu) hst) fun D σ H h => by
    obtain ⟨τ, M, D3, hr, sl, h, L⟩ := h
    exact ⟨τ, M, _, hr, sl, h, fun v H1 d M1 h1 g1 hr1 r1 => ⟨τ, M1, _, hr1, sl.mono g1, h1, fun w H2 k M2 h2 g2 hr2 r2 => ⟨d, k, M2, _, hr2, Rep.mono g2 _ r1, r2, h2, fun u H3 x M3 h3 g3 hr3 r3 =>
      have g12 := (g1.trans g2).trans g3
      ⟨τ, M3, _, hr3, sl.mono g12, h3, fun v4 H4 y M4 h4 g4 hr4 r4 => ⟨x, y, M4, _, hr4, Rep.mono g4 _ r3, r4, h4, fun v5 H5 z M5 h5 g5 hr5 r5 =>
        ⟨d, k, z, M5, _, hr5, Rep.mono (((g2.trans g3).trans g4).trans g5) _ r1, Rep.mono ((g3.trans g4).trans g5) _ r2, r5, h5, fun H6 M6 h6 g6 hr6 =>
          have gg := ((g12.trans g4).trans g5).trans g6
          L.nx _ _ _ _ h6 gg hr6 (sl.mono gg)⟩⟩⟩⟩⟩⟩
theorem ls_ex (ha : PE X a (lift X.K ta)) (hs : swapsWith a none pos.line X.env = pure false) : PS X (.Expr a pos) (liftS X.K fun D τ M => ta τ M fun _ M1 => D.nx τ M1) := PSw (ps_expr ha hs) fun D σ H h => by
  obtain ⟨τ, M, D3, hr, sl, h, L⟩ := h
  exact ⟨τ, M, _, hr, sl, h, fun v H1 d M1 h1 g1 hr1 r1 => L.nx _ _ _ _ h1 g1 hr1 (sl.mono g1)⟩
theorem ls_ret (ha : PE X a (lift X.K ta)) : PS X (.Return (some a) pos) (liftS X.K fun D τ M => ta τ M D.rt) := PSw (ps_ret ha) fun D σ H h => by
  obtain ⟨τ, M, D3, hr, sl, h, L⟩ := h
  exact ⟨τ, M, _, hr, sl, h, L.rt⟩
theorem ls_ret0 : PS X (.Return none pos) (liftS X.K fun D τ M => D.rt .non M) := PSw ps_retN fun D σ H h => by
  obtain ⟨τ, M, D3, hr, sl, h, L⟩ := h
  exact L.rt.here hr .non h
theorem ls_brk : PS X (.Break pos) (liftS X.K fun D τ M => D.bk τ M) := PSw ps_break fun D σ H h => by
  obtain ⟨τ, M, D3, hr, sl, h, L⟩ := h
  exact L.bk _ _ _ _ h .refl hr sl
theorem ls_cont : PS X (.Continue pos) (liftS X.K fun D τ M => D.ct τ M) := PSw ps_continue fun D σ H h => by
  obtain ⟨τ, M, D3, hr, sl, h, L⟩ := h
  exact L.ct _ _ _ _ h .refl hr sl
theorem ls_pass : PS X (.Pass pos) (liftS X.K fun D τ M => D.nx τ M) := PSw ps_pass fun D σ H h => by
  obtain ⟨τ, M, D3, hr, sl, h, L⟩ := h
  exact L.nx _ _ _ _ h .refl hr sl
theorem lss_nil : PSs X [] (liftS X.K fun D τ M => D.nx τ M) := PSsw pss_nil fun D σ H h => by
  obtain ⟨τ, M, D3, hr, sl, h, L⟩ := h
  exact L.nx _ _ _ _ h .refl hr sl
theorem lss_cons {s : Stmt} {ss : List Stmt} {t u : TS3} (h1 : PS X s (liftS X.K t)) (h2 : PSs X ss (liftS X.K u)) : PSs X (s :: ss) (liftS X.K fun D τ M => t { D with nx := u D } τ M) := PSsw (pss_cons h1 h2) fun D σ H h => by
  obtain ⟨τ, M, D3, hr, sl, h, L⟩ := h
  exact ⟨τ, M, _, hr, sl, h, ⟨fun σ' H' τ' M' q g hr' sl' => ⟨τ', M', D3, hr', sl', q, L.from g⟩, L.rt, L.bk, L.ct⟩⟩
theorem ls_if {pa pb : List Stmt} {tt : TT3} {t u : TS3} (hc : PT X c (liftT X.K tt)) (ha : PSs X pa (liftS X.K t)) (hb : PSs X pb (liftS X.K u)) :
    PS X (.If c pa pb pos) (liftS X.K fun D τ M => tt τ M fun k M1 => if k = true then t D τ M1 else u D τ M1) := PSw (ps_if hc ha hb) fun D σ H h => by
  obtain ⟨τ, M, D3, hr, sl, h, L⟩ := h
  refine ⟨τ, M, _, hr, sl, h, fun k H1 M1 h1 g1 hr1 => ?_⟩
  cases k with
  | true => rw [if_pos rfl] at h1 ⊢; exact ⟨τ, M1, D3, hr1, sl.mono g1, h1, L.from g1⟩
  | false => rw [if_neg Bool.false_ne_true] at h1 ⊢; exact ⟨τ, M1, D3, hr1, sl.mono g1, h1, L.from g1⟩
theorem ls_while {pb : List Stmt} {tt : TT3} {t : TS3} (hp : PassesOwn (model X.prog X.w) X.A X.env X.xe) (hc : PT X c (liftT X.K tt)) (hb : PSs X pb (liftS X.K t)) :
    PS X (.While c pb [] pos) (liftS X.K fun D τ M => whileW tt t D τ M) := PSw (ps_while hp hc hb) fun D σ H h => by
  obtain ⟨τ, M, D3, hr, sl, ⟨I, ⟨n0, i0⟩, turn⟩, L⟩ := h
  refine ⟨fun m σ' H' => Grow X.K H H' ∧ ∃ τ' M', I m τ' M' ∧ HR X.K M' H' ∧ Slots X.K H' σ' τ', ⟨n0, .refl, τ, M, i0, hr, sl⟩, ?_⟩
  rintro m σ' H' ⟨g, τ', M', hI, hr', sl'⟩
  refine ⟨τ', M', _, hr', sl', turn m τ' M' hI, fun k H1 M1 h1 g1 hr1 => ?_⟩
  cases k with
  | false => rw [if_neg Bool.false_ne_true] at h1 ⊢; obtain ⟨M0, sb, q⟩ := h1; exact L.nx _ _ _ _ q (g.trans g1) (hr1.sub sb) (sl'.mono g1)
  | true =>
    rw [if_pos rfl] at h1 ⊢
    have again : ∀ σ2 H2 τ2 M2, (∃ k, k < m ∧ wk (I k τ2) M2) → Grow X.K H1 H2 → HR X.K M2 H2 → Slots X.K H2 σ2 τ2 → ∃ k, k < m ∧ Grow X.K H H2 ∧ ∃ τ' M', I k τ' M' ∧ HR X.K M' H2 ∧ Slots X.K H2 σ2 τ' := fun σ2 H2 τ2 M2 q g2 hr2 sl2 => by
      obtain ⟨k, hk, M0, sb, hI2⟩ := q
      exact ⟨k, hk, (g.trans g1).trans g2, τ2, M0, hI2, hr2.sub sb, sl2⟩
    have q : liftS X.K t { D with nx := fun σ2 H2 => ∃ k, k < m ∧ Grow X.K H H2 ∧ ∃ τ' M', I k τ' M' ∧ HR X.K M' H2 ∧ Slots X.K H2 σ2 τ', ct := fun σ2 H2 => ∃ k, k < m ∧ Grow X.K H H2 ∧ ∃ τ' M', I k τ' M' ∧ HR X.K M' H2 ∧ Slots X.K H2 σ2 τ', bk := D.nx } σ' H1 :=
      ⟨τ', M1, _, hr1, sl'.mono g1, h1, ⟨again, L.rt.from (g.trans g1), fun a b c d q g2 => L.nx a b c d q ((g.trans g1).trans g2), again⟩⟩
    exact ⟨_, fun σ2 H2 q => q, q⟩
theorem ls_for {tg iter : Expr} {pb : List Stmt} {ti : TI3} {tn : Tn} {t : TS3} (hp : PassesOwn (model X.prog X.w) X.A X.env X.xe) (hc : X.calm = true) (hi : PI X tg iter (liftI X.K ti)) (hg : PG X tg (gOf X.K tn)) (hb : PSs X pb (liftS X.K t))
    (hs : ∀ x, foldedSetIterable iter X.env x = pure x) :
    PS X (.For tg iter pb [] pos) (liftS X.K fun D τ M => ti τ M fun ds keep M1 => forW ds keep tn t D τ M1) := PSw (ps_for hp hc hi hg hb hs) fun D σ H h => by
  obtain ⟨τ, M, D3, hr, sl, h, L⟩ := h
  refine ⟨τ, M, _, hr, sl, h, fun J ds keep H1 M1 h1 g1 hr1 it => ?_⟩
  obtain ⟨I, i0, turn⟩ := h1
  refine ⟨fun i m σ' H' => m = ds.length - i ∧ i ≤ ds.length ∧ Grow X.K H1 H' ∧ ∃ τ' M', I i τ' M' ∧ HR X.K M' H' ∧ Slots X.K H' σ' τ', ⟨_, rfl, Nat.zero_le _, .refl, τ, M1, i0, hr1, sl.mono g1⟩, ?_⟩
  rintro i m σ' H' ⟨rfl, hi, gH, τ', M', hI, hr', sl'⟩
  obtain ⟨k, step, fin⟩ := turn i τ' M' hI hi
  by_cases hl : i < ds.length
  · refine .inr ?_
    have hd : ds[i]? = some ds[i] := List.getElem?_eq_getElem hl
    obtain ⟨go, yld⟩ := it.1 i H' M' _ gH hr' k hd
    refine ⟨go, fun σ2 H2 => i + 1 ≤ ds.length ∧ Grow X.K H1 H2 ∧ ∃ τ' M', I (i + 1) τ' M' ∧ HR X.K M' H2 ∧ Slots X.K H2 σ2 τ', fun σ2 H2 q => ⟨ds.length - (i + 1), by omega, rfl, q⟩, fun x H2 y => ?_⟩
    obtain ⟨g2, hr2, rx⟩ := yld x H2 y
    have g12 := g1.trans (gH.trans g2)
    have again : ∀ σ3 H3 τ3 M3, wk (I (i + 1) τ3) M3 → Grow X.K H2 H3 → HR X.K M3 H3 → Slots X.K H3 σ3 τ3 → i + 1 ≤ ds.length ∧ Grow X.K H1 H3 ∧ ∃ τ' M', I (i + 1) τ' M' ∧ HR X.K M' H3 ∧ Slots X.K H3 σ3 τ' := fun σ3 H3 τ3 M3 q g3 hr3 sl3 => by
      obtain ⟨M0, sb, hI2⟩ := q
      exact ⟨hl, (gH.trans g2).trans g3, τ3, M0, hI2, hr3.sub sb, sl3⟩
    refine gOf_ok (vs := []) (W := []) tn hr2 rx (sl'.mono g2) (step _ hd) fun σ2 τ2 h2 s2 _ => ⟨τ2, M', _, hr2, s2, h2, ⟨again, L.rt.from g12, fun a b c d q g3 => L.nx a b c d q (g12.trans g3), again⟩⟩
  · have e : i = ds.length := by omega
    obtain ⟨M0, sb, q⟩ := fin e
    exact .inl ⟨it.2 i H' M' gH hr' k (by omega), L.nx _ _ _ _ q (g1.trans gH) (hr'.sub sb) sl'⟩
theorem ls_par {j k : Nat} {x y : Str} {px py pt : Pos} {kt k2 pt2} (hc : X.calm = true) (hN : X.N.Nodup) (hi : X.N[j]? = some x) (hj : X.N[k]? = some y) (hij : j ≠ k)
    (hx : X.env.scope.names.lookup x = some .local) (hy : X.env.scope.names.lookup y = some .local) (ha : PE X a (lift X.K ta)) (hb : PE X b (lift X.K tb)) (he : starEach [a, b] X.env = (false, eval a X.env) :: starEach [b] X.env) (he2 : starEach [b] X.env = (false, eval b X.env) :: starEach [] X.env)
    (hw : swappedStores [.Tuple [.Name x px, .Name y py] kt pt] (.Tuple [a, b] k2 pt2) X.env = pure (some [x, y])) :
    PS X (.Assign [.Tuple [.Name x px, .Name y py] kt pt] (.Tuple [a, b] k2 pt2) pos) (liftS X.K fun D τ M => ta τ M fun d M1 => tb τ M1 fun e M2 => D.nx ((τ.set j (some d)).set k (some e)) M2) :=
  PSw (ps_par hc hN hi hj hij hx hy (la_cons ha (la_cons hb la_nil he2) he) hw) fun D σ H h => by
    obtain ⟨τ, M, D3, hr, sl, h, L⟩ := h
    refine ⟨τ, M, fun ds M2 => two ds fun d e => D3.nx ((τ.set j (some d)).set k (some e)) M2, hr, sl, h, fun vs H1 ds M1 h1 g1 hr1 r1 _ => ?_⟩
    obtain ⟨d, e, rfl, h2⟩ := two_inv h1
    obtain ⟨v, w, rfl, r, r'⟩ := Reps2 r1
    exact ⟨v, w, rfl, L.nx _ _ _ _ h2 g1 hr1 (((sl.mono g1).set r j).set r' k)⟩
end

section
variable {K : PySem.W.Frag}
theorem wipe_twice {σ : L2.St} : ∀ ws : List Nat, wipe (wipe σ ws) ws = wipe σ ws := by
  have com : ∀ (ws : List Nat) (v : Nat) (σ : L2.St), wipe (σ.set v none) ws = (wipe σ ws).set v none := by
    intro ws v
    induction ws with
    | nil => intro σ; rfl
    | cons w ws ih =>
      intro σ
      unfold wipe
      rw [ih]
      by_cases e : v = w
      · subst e; rfl
      · rw [List.set_comm _ _ e]
  intro ws
  induction ws with
  | nil => rfl
  | cons w ws ih =>
    show (wipe ((wipe σ ws).set w none) ws).set w none = (wipe σ ws).set w none
    rw [com, ih, List.set_set]
/-! ### dict comprehensions -/
theorem tDc_of {ti : TI3} {tn : Tn} {vs : List Nat} {tt : TT3} {tk tv : TE3} (hin : inN vs tn = true) {σ : L2.St} {H : Hp} {Q : VK} (h : lift K (fun τ M Q => ti τ M fun ds keep M1 => dcW ds keep tn vs tt tk tv τ M1 Q) σ H Q) :
    tDc (liftI K ti) (gOf K tn) (liftT K tt) (lift K tk) (lift K tv) vs σ H Q := by
  obtain ⟨τ, M, Q3, hr, sl, h, L⟩ := h
  refine ⟨τ, M, _, hr, sl, h, fun J ds keep H1 M1 h1 g1 hr1 it D nD => ?_⟩
  obtain ⟨I, i0, turn⟩ := h1 D (hr1.none nD)
  refine ⟨fun i m H' => m = ds.length - i ∧ i ≤ ds.length ∧ Grow K H1 H' ∧ ∃ acc M', I i acc M' ∧ HR K M' H', ⟨_, rfl, Nat.zero_le _, .new nD, [], _, i0, hr1.put (.new nD) ⟨_, upd_same, .nil⟩⟩, ?_⟩
  rintro i m H' ⟨rfl, hi, gH, acc, M', hI, hr'⟩
  obtain ⟨k, hD, step, fin⟩ := turn i acc M' hI hi
  by_cases hl : i < ds.length
  · refine .inr ?_
    have hd : ds[i]? = some ds[i] := List.getElem?_eq_getElem hl
    obtain ⟨go, yld⟩ := it.1 i H' M' _ gH hr' k hd
    refine ⟨go, fun H2 => i + 1 ≤ ds.length ∧ Grow K H1 H2 ∧ ∃ acc M', I (i + 1) acc M' ∧ HR K M' H2, fun H2 q => ⟨ds.length - (i + 1), by omega, rfl, q⟩, fun x H2 y => ?_⟩
    obtain ⟨g2, hr2, rx⟩ := yld x H2 y
    have gg := g1.trans (gH.trans g2)
    refine gOf_ok (vs := vs) (W := wipe σ vs) tn hr2 rx (slots_wipe (sl.mono gg) vs) (step _ hd) fun σ2 τ2 h2 s2 e2 => ⟨e2 hin (wipe_twice vs), τ2, M', _, hr2, s2, h2, fun b H3 M3 h3 g3 hr3 => ?_⟩
    cases b with
    | false =>
      rw [if_neg Bool.false_ne_true] at h3 ⊢
      obtain ⟨M0, sb, hI'⟩ := h3
      exact ⟨hl, (gH.trans g2).trans g3, acc, M0, hI', hr3.sub sb⟩
    | true =>
      rw [if_pos rfl] at h3 ⊢
      refine ⟨τ2, M3, _, hr3, s2.mono g3, h3, fun w H4 y M4 h4 g4 hr4 ry => ?_⟩
      refine ⟨τ2, M4, _, hr4, (s2.mono g3).mono g4, h4, fun w2 H5 z M5 h5 g5 hr5 rz => ?_⟩
      obtain ⟨kk, ek, hz, hD5, M0, sb, hI'⟩ := some3_inv h5
      obtain ⟨xs, hx, qx⟩ := hr5.dic hD5
      have e2 := keyD_ok (ry.mono g5) ek
      have g6 := Grow.dK (o := .dK (putK xs kk w2)) (K := K) hx
      have hp := hr5.put (o := .dic (putD acc kk z)) g6 ⟨_, upd_same, Paired.mapP (putK_ok qx rz) fun a b z => ⟨z.1, Rep.mono g6 _ z.2⟩⟩
      exact ⟨xs, kk, e2, hx, by rw [PK3.length qx]; exact hz, hl, ((((gH.trans g2).trans g3).trans g4).trans g5).trans g6, putD acc kk z, M0, hI', hp.sub sb⟩
  · have e : i = ds.length := by omega
    obtain ⟨M0, sb, q⟩ := fin e
    exact .inl ⟨it.2 i H' M' gH hr' k (by omega), L _ _ _ _ q (g1.trans gH) (hr'.sub sb) (.ref D)⟩
/-! ### comprehensions of two loops -/
theorem tLc2_of {ti ti1 : TI3} {tn tn1 : Tn} {vs vs1 : List Nat} {te : TE3} (hin : inN vs tn = true) (hin1 : inN vs1 tn1 = true) {σ : L2.St} {H : Hp} {Q : VK} (h : lift K (fun τ M Q => ti τ M fun ds keep M1 => lc2W ds keep tn vs ti1 tn1 vs1 te τ M1 Q) σ H Q) :
    tLc2 (liftI K ti) (gOf K tn) (liftT K fun τ M Q => Q true M) (liftI K ti1) (gOf K tn1) (liftT K fun τ M Q => Q true M) (lift K te) vs vs1 σ H Q := by
  obtain ⟨τ, M, Q3, hr, sl, h, L⟩ := h
  refine ⟨τ, M, _, hr, sl, h, fun J ds keep H1 M1 h1 g1 hr1 it D nD => ?_⟩
  obtain ⟨I, i0, turn⟩ := h1 D (hr1.none nD)
  refine ⟨fun i m H' => m = ds.length - i ∧ i ≤ ds.length ∧ Grow K H1 H' ∧ ∃ acc M', I i acc M' ∧ HR K M' H', ⟨_, rfl, Nat.zero_le _, .new nD, [], _, i0, hr1.putL (.new nD) .nil⟩, ?_⟩
  rintro i m H' ⟨rfl, hi, gH, acc, M', hI, hr'⟩
  obtain ⟨k, step, fin⟩ := turn i acc M' hI hi
  by_cases hl : i < ds.length
  · refine .inr ?_
    have hd : ds[i]? = some ds[i] := List.getElem?_eq_getElem hl
    obtain ⟨go, yld⟩ := it.1 i H' M' _ gH hr' k hd
    refine ⟨go, fun H2 => i + 1 ≤ ds.length ∧ Grow K H1 H2 ∧ ∃ acc M', I (i + 1) acc M' ∧ HR K M' H2, fun H2 q => ⟨ds.length - (i + 1), by omega, rfl, q⟩, fun x H2 y => ?_⟩
    obtain ⟨g2, hr2, rx⟩ := yld x H2 y
    have gg := g1.trans (gH.trans g2)
    refine gOf_ok (vs := vs) (W := wipe σ vs) tn hr2 rx (slots_wipe (sl.mono gg) vs) (step _ hd) fun σ2 τ2 h2 s2 e2 => ⟨e2 hin (wipe_twice vs), τ2, M', fun b M3 => b = true ∧ M3 = M', hr2, s2, ⟨rfl, rfl⟩, fun b H3 M3 h3 g3 hr3 => ?_⟩
    obtain ⟨rfl, rfl⟩ := h3
    rw [if_pos rfl]
    refine ⟨τ2, M3, _, hr3, s2.mono g3, h2, fun J1 ds1 keep1 H4 M4 h4 g4 hr4 it1 => ?_⟩
    obtain ⟨I1, j0, turn1⟩ := h4
    have gH4 : Grow K H1 H4 := ((gH.trans g2).trans g3).trans g4
    refine ⟨fun j m H' => m = ds1.length - j ∧ j ≤ ds1.length ∧ Grow K H4 H' ∧ ∃ acc M', I1 j acc M' ∧ HR K M' H', ⟨_, rfl, Nat.zero_le _, .refl, acc, _, j0, hr4⟩, ?_⟩
    rintro j m H5 ⟨rfl, hj, gH5, acc1, M5, hI1, hr5⟩
    obtain ⟨k1, step1, fin1⟩ := turn1 j acc1 M5 hI1 hj
    by_cases hl1 : j < ds1.length
    · refine .inr ?_
      have hd1 : ds1[j]? = some ds1[j] := List.getElem?_eq_getElem hl1
      obtain ⟨go1, yld1⟩ := it1.1 j H5 M5 _ gH5 hr5 k1 hd1
      refine ⟨go1, fun H2 => j + 1 ≤ ds1.length ∧ Grow K H4 H2 ∧ ∃ acc M', I1 (j + 1) acc M' ∧ HR K M' H2, fun H2 q => ⟨ds1.length - (j + 1), by omega, rfl, q⟩, fun x1 H6 y1 => ?_⟩
      obtain ⟨g6, hr6, rx1⟩ := yld1 x1 H6 y1
      refine gOf_ok (vs := vs1) (W := wipe σ2 vs1) tn1 hr6 rx1 (slots_wipe (((s2.mono g3).mono g4).mono (gH5.trans g6)) vs1) (step1 _ hd1) fun σ3 τ3 h7 s3 e3 => ⟨e3 hin1 (wipe_twice vs1), τ3, M5, fun b M3 => b = true ∧ M3 = M5, hr6, s3, ⟨rfl, rfl⟩, fun b H7 M7 h8 g7 hr7 => ?_⟩
      obtain ⟨rfl, rfl⟩ := h8
      rw [if_pos rfl]
      refine ⟨τ3, M7, _, hr7, s3.mono g7, h7, fun w H8 y M8 h9 g8 hr8 ry => ?_⟩
      obtain ⟨hz, hD8, M0, sb, hI'⟩ := h9
      obtain ⟨xs, hx, qx⟩ := hr8.list hD8
      have g9 := Grow.lst (o := .lst (xs ++ [w])) (K := K) hx
      exact ⟨xs, hx, by rw [qx.length]; exact hz, hl1, (((gH5.trans g6).trans g7).trans g8).trans g9, acc1 ++ [y], M0, hI', (hr8.putL g9 (qx.snoc ry)).sub sb⟩
    · have e : j = ds1.length := by omega
      obtain ⟨M0, sb, q⟩ := fin1 e
      exact .inl ⟨it1.2 j H5 M5 gH5 hr5 k1 (by omega), hl, gH4.trans gH5, acc1, M0, q, hr5.sub sb⟩
  · have e : i = ds.length := by omega
    obtain ⟨M0, sb, q⟩ := fin e
    exact .inl ⟨it.2 i H' M' gH hr' k (by omega), L _ _ _ _ q (g1.trans gH) (hr'.sub sb) (.ref D)⟩
end
section
variable {X : Cx}
theorem le_dc {kx vx tg iter : Expr} {ifs : List Expr} {scope : Scope} {own : List (Str × Nat)} {pos : Pos} {ti : TI3} {tn : Tn} {tt : TT3} {tk tv : TE3} (hc : X.calm = true) (hN : X.N.Nodup) (hi : PI X tg iter (liftI X.K ti)) (ok : BlkOk X.N X.env.scope scope own)
    (hg : ∀ (s : Shared) (H : Hp) (C : Addr) (cl : List (Str × Addr)) (fp : List Addr), PG (X.blk s H scope (compEnvC scope cl C X.env) fp) tg (gOf X.K tn))
    (ht : ∀ (s : Shared) (H : Hp) (C : Addr) (cl : List (Str × Addr)) (fp : List Addr), PTs (X.blk s H scope (compEnvC scope cl C X.env) fp) ifs (liftT X.K tt))
    (hk : ∀ (s : Shared) (H : Hp) (C : Addr) (cl : List (Str × Addr)) (fp : List Addr), PE (X.blk s H scope (compEnvC scope cl C X.env) fp) kx (lift X.K tk))
    (he : ∀ (s : Shared) (H : Hp) (C : Addr) (cl : List (Str × Addr)) (fp : List Addr), PE (X.blk s H scope (compEnvC scope cl C X.env) fp) vx (lift X.K tv)) (hs : ∀ x, foldedSetIterable iter X.env x = pure x) (hin : inN (own.map (·.2)) tn = true) :
    PE X (.DictComp kx vx [⟨tg, iter, ifs, 0⟩] scope pos) (lift X.K fun τ M Q => ti τ M fun ds keep M1 => dcW ds keep tn (own.map (·.2)) tt tk tv τ M1 Q) :=
  PEw (pe_dc hc hN hi ok hg ht hk he hs) fun σ H Q h => tDc_of hin h
theorem le_lc2 {elt tg iter tg1 iter1 : Expr} {scope : Scope} {own : List (Str × Nat)} {vs1 : List Nat} {pos : Pos} {ti ti1 : TI3} {tn tn1 : Tn} {te : TE3} (hc : X.calm = true) (hN : X.N.Nodup) (hi : PI X tg iter (liftI X.K ti)) (ok : BlkOk X.N X.env.scope scope own) (hv : ∀ i ∈ vs1, i ∈ own.map (·.2))
    (hg : ∀ (s : Shared) (H : Hp) (C : Addr) (cl : List (Str × Addr)) (fp : List Addr), PG (X.blk s H scope (compEnvC scope cl C X.env) fp) tg (gOf X.K tn))
    (hi1 : ∀ (s : Shared) (H : Hp) (C : Addr) (cl : List (Str × Addr)) (fp : List Addr), PI (X.blk s H scope (compEnvC scope cl C X.env) fp) tg1 iter1 (liftI X.K ti1))
    (hg1 : ∀ (s : Shared) (H : Hp) (C : Addr) (cl : List (Str × Addr)) (fp : List Addr), PG (X.blk s H scope (compEnvC scope cl C X.env) fp) tg1 (gOf X.K tn1))
    (he : ∀ (s : Shared) (H : Hp) (C : Addr) (cl : List (Str × Addr)) (fp : List Addr), PE (X.blk s H scope (compEnvC scope cl C X.env) fp) elt (lift X.K te)) (hs : ∀ x, foldedSetIterable iter X.env x = pure x) (hs1 : ∀ env x, foldedSetIterable iter1 env x = pure x) (hin : inN (own.map (·.2)) tn = true) (hin1 : inN vs1 tn1 = true) :
    PE X (.ListComp elt [⟨tg, iter, [], 0⟩, ⟨tg1, iter1, [], 0⟩] scope pos) (lift X.K fun τ M Q => ti τ M fun ds keep M1 => lc2W ds keep tn (own.map (·.2)) ti1 tn1 vs1 te τ M1 Q) :=
  PEw (pe_lc2 hc hN hi ok hv hg (fun _ _ _ _ _ => lts_nil) hi1 hg1 (fun _ _ _ _ _ => lts_nil) he hs hs1) fun σ H Q h => tLc2_of hin hin1 h
theorem ls_lc2 {i : Nat} {y : Str} {py spos : Pos} {elt tg iter tg1 iter1 : Expr} {scope : Scope} {own : List (Str × Nat)} {vs1 : List Nat} {pos : Pos} {ti ti1 : TI3} {tn tn1 : Tn} {te : TE3} (hc : X.calm = true) (hN : X.N.Nodup) (hy : X.N[i]? = some y) (hyl : X.env.scope.names.lookup y = some .local)
    (hsw : swapsWith (.ListComp elt [⟨tg, iter, [], 0⟩, ⟨tg1, iter1, [], 0⟩] scope pos) (some (.Name y py)) spos.line X.env = pure true) (hi : PI X tg iter (liftI X.K ti)) (ok : BlkOk X.N X.env.scope scope own) (hv : ∀ i ∈ vs1, i ∈ own.map (·.2))
    (hg : ∀ (s : Shared) (H : Hp) (C : Addr) (cl : List (Str × Addr)) (fp : List Addr), PG (X.blk s H scope (compEnvC scope cl C X.env) fp) tg (gOf X.K tn))
    (hi1 : ∀ (s : Shared) (H : Hp) (C : Addr) (cl : List (Str × Addr)) (fp : List Addr), PI (X.blk s H scope (compEnvC scope cl C X.env) fp) tg1 iter1 (liftI X.K ti1))
    (hg1 : ∀ (s : Shared) (H : Hp) (C : Addr) (cl : List (Str × Addr)) (fp : List Addr), PG (X.blk s H scope (compEnvC scope cl C X.env) fp) tg1 (gOf X.K tn1))
    (he : ∀ (s : Shared) (H : Hp) (C : Addr) (cl : List (Str × Addr)) (fp : List Addr), PE (X.blk s H scope (compEnvC scope cl C X.env) fp) elt (lift X.K te)) (hs : ∀ x, foldedSetIterable iter X.env x = pure x) (hs1 : ∀ env x, foldedSetIterable iter1 env x = pure x) (hin : inN (own.map (·.2)) tn = true) (hin1 : inN vs1 tn1 = true) :
    PS X (.Assign [.Name y py] (.ListComp elt [⟨tg, iter, [], 0⟩, ⟨tg1, iter1, [], 0⟩] scope pos) spos) (liftS X.K fun D τ M => ti τ M fun ds keep M1 => lc2W ds keep tn (own.map (·.2)) ti1 tn1 vs1 te τ M1 fun d M2 => D.nx (τ.set i (some d)) M2) :=
  PSw (ps_setLc2 hc hN hy hyl hsw hi ok hv hg (fun _ _ _ _ _ => lts_nil) hi1 hg1 (fun _ _ _ _ _ => lts_nil) he hs hs1) fun D σ H h => by
    obtain ⟨τ, M, D3, hr, sl, h, L⟩ := h
    exact tLc2_of (Q := fun x H1 => gName i x σ H1 D.nx) hin hin1 ⟨τ, M, fun d M2 => D3.nx (τ.set i (some d)) M2, hr, sl, h, fun v H1 d M1 h1 g1 hr1 r1 => L.nx _ _ _ _ h1 g1 hr1 ((sl.mono g1).set r1 i)⟩
theorem ps_setDc {i : Nat} {y : Str} {py : Pos} {kx vx tg iter : Expr} {ifs : List Expr} {scope : Scope} {own : List (Str × Nat)} {pos spos : Pos} {wi : TI} {g : TG} {tt : TT} {tk tv : TE} (hc : X.calm = true) (hN : X.N.Nodup) (hy : X.N[i]? = some y) (hyl : X.env.scope.names.lookup y = some .local)
    (hsw : swapsWith (.DictComp kx vx [⟨tg, iter, ifs, 0⟩] scope pos) (some (.Name y py)) spos.line X.env = pure true) (hi : PI X tg iter wi) (ok : BlkOk X.N X.env.scope scope own)
    (hg : ∀ (s : Shared) (H : Hp) (C : Addr) (cl : List (Str × Addr)) (fp : List Addr), PG (X.blk s H scope (compEnvC scope cl C X.env) fp) tg g) (ht : ∀ (s : Shared) (H : Hp) (C : Addr) (cl : List (Str × Addr)) (fp : List Addr), PTs (X.blk s H scope (compEnvC scope cl C X.env) fp) ifs tt)
    (hk : ∀ (s : Shared) (H : Hp) (C : Addr) (cl : List (Str × Addr)) (fp : List Addr), PE (X.blk s H scope (compEnvC scope cl C X.env) fp) kx tk)
    (he : ∀ (s : Shared) (H : Hp) (C : Addr) (cl : List (Str × Addr)) (fp : List Addr), PE (X.blk s H scope (compEnvC scope cl C X.env) fp) vx tv) (hs : ∀ x, foldedSetIterable iter X.env x = pure x) :
    PS X (.Assign [.Name y py] (.DictComp kx vx [⟨tg, iter, ifs, 0⟩] scope pos) spos) (tAsg (tDc wi g tt tk tv (own.map (·.2))) (gName i)) := by
  refine ⟨fun pins s σ H D I h => ?_⟩
  rw [exec_Assign_Name_used _ _ _ _ hsw]
  refine wpAny_bind (wpAny_standAt (wpAny_bind ?_))
  show wpAny _ X.A (do let _ ← comprehension (.DictComp kx vx [⟨tg, iter, ifs, 0⟩] scope pos) scope X.env (firstIterPos [⟨tg, iter, ifs, 0⟩] pos) newDict false (eval iter X.env) (some (assign (.Name y py) X.env))) _ _ s
  have h : tDc wi g tt tk tv (own.map (·.2)) σ H (fun x H1 => gName i x σ H1 D.nx) := h
  refine wpAny_bind (thn (dc_core (Qf := fun _ s' => SP X pins D .next s') hc hN I hi ok hg ht hk he hs h fun L C s' m H' I' q hn f => ?_) fun _ s' hq => wpAny_pure (wpAny_pure hq))
  show wpAny _ _ (assign (.Name y py) X.env (.ref L)) _ _ _
  refine wpAny_assign_Name (store_ok2 (v := V.ref L) I' hN hy (.inl hyl) rfl (fun s2 I2 ⟨a, sb, ha⟩ => ?_) (.inr hyl))
  obtain ⟨f0, f1, f2, f3, f4, f5⟩ := f
  have haC : C ≠ a := by
    rcases ha with z | z
    · rw [z]; exact f1
    · exact fun e => f4 y a z e.symm
  refine ⟨m, hn.sameBut sb haC, fun h3 sb3 => ?_⟩
  exact ⟨_, H', I2.turned (t' := s2.toks) (fun b o hb e => (sb3.2 b hb).trans e) f0 f1 f3 f4 f5, q⟩
theorem ls_dc {i : Nat} {y : Str} {py spos : Pos} {kx vx tg iter : Expr} {ifs : List Expr} {scope : Scope} {own : List (Str × Nat)} {pos : Pos} {ti : TI3} {tn : Tn} {tt : TT3} {tk tv : TE3} (hc : X.calm = true) (hN : X.N.Nodup) (hy : X.N[i]? = some y) (hyl : X.env.scope.names.lookup y = some .local)
    (hsw : swapsWith (.DictComp kx vx [⟨tg, iter, ifs, 0⟩] scope pos) (some (.Name y py)) spos.line X.env = pure true) (hi : PI X tg iter (liftI X.K ti)) (ok : BlkOk X.N X.env.scope scope own)
    (hg : ∀ (s : Shared) (H : Hp) (C : Addr) (cl : List (Str × Addr)) (fp : List Addr), PG (X.blk s H scope (compEnvC scope cl C X.env) fp) tg (gOf X.K tn))
    (ht : ∀ (s : Shared) (H : Hp) (C : Addr) (cl : List (Str × Addr)) (fp : List Addr), PTs (X.blk s H scope (compEnvC scope cl C X.env) fp) ifs (liftT X.K tt))
    (hk : ∀ (s : Shared) (H : Hp) (C : Addr) (cl : List (Str × Addr)) (fp : List Addr), PE (X.blk s H scope (compEnvC scope cl C X.env) fp) kx (lift X.K tk))
    (he : ∀ (s : Shared) (H : Hp) (C : Addr) (cl : List (Str × Addr)) (fp : List Addr), PE (X.blk s H scope (compEnvC scope cl C X.env) fp) vx (lift X.K tv)) (hs : ∀ x, foldedSetIterable iter X.env x = pure x) (hin : inN (own.map (·.2)) tn = true) :
    PS X (.Assign [.Name y py] (.DictComp kx vx [⟨tg, iter, ifs, 0⟩] scope pos) spos) (liftS X.K fun D τ M => ti τ M fun ds keep M1 => dcW ds keep tn (own.map (·.2)) tt tk tv τ M1 fun d M2 => D.nx (τ.set i (some d)) M2) :=
  PSw (ps_setDc hc hN hy hyl hsw hi ok hg ht hk he hs) fun D σ H h => by
    obtain ⟨τ, M, D3, hr, sl, h, L⟩ := h
    exact tDc_of (Q := fun x H1 => gName i x σ H1 D.nx) hin ⟨τ, M, fun d M2 => D3.nx (τ.set i (some d)) M2, hr, sl, h, fun v H1 d M1 h1 g1 hr1 r1 => L.nx _ _ _ _ h1 g1 hr1 ((sl.mono g1).set r1 i)⟩
end
end G3
set_option Elab.async false
set_option linter.all false
set_option maxRecDepth 100000
set_option maxHeartbeats 4000000
namespace G3
open PySem PySem.Spec PyProof.Rows L2
/-! ### dict comprehensions whose keys are tuples -/
/-- a comprehension's store at a tuple -/
theorem tupStore {Y : Cx} {ps : List (Addr × Obj)} {ρ : L2.St} {G : Hp} {t : Shared} {Er : Value → Shared → Prop} {d kb : Addr} {ws : List (List Key × V)} {kk : List Key} {z : V} {uk uz : Value} {R : Unit → Shared → Prop}
    (hu : Y.A.units + 1 < cLine) (J : L2.Inv Y ps ρ G t) (hd : G d = some (.dT ws)) (hk : G kb = some (.tup (kk.map kV))) (few : ws.length < sizeLine) (rk : L2.RelV (.ref kb) uk) (rz : L2.RelV z uz)
    (go : ∀ t', L2.Inv Y ps ρ (upd G d (.dT (putK ws kk z))) t' → R () t') : wpAny (model Y.prog Y.w) Y.A (dictSet d uk uz) R Er t := by
  obtain rfl : uk = Value.ref kb := rk
  obtain ⟨big, ns, zs, rel, dh⟩ := dt_of J.hok hd
  have nz : zs.length ≤ sizeLine := Paired.length rel ▸ big
  have np : (putK ws kk z).length ≤ sizeLine := Nat.le_trans (length_putK ws kk z) few
  refine wpAny_dictSet_heap (hsz := nz) (show Y.A.units < cLine by omega) (key_of J.hok hk) dh fun g' dg sb => go _ ?_
  obtain ⟨ob, es, ep, e1, e2, e3, e4, _, e6⟩ := dg
  have kept : KT (upd G d (.dT (putK ws kk z))) (putK ws kk z) (storedH zs kk kb uz) := (rel.put kk hk rz).keeps fun c ys ec => by
    have cd : c ≠ d := fun e => by rw [e, hd] at ec; cases ec
    rw [upd_ne cd]; exact ec
  exact d_write J (by rw [hd]; trivial) sb ⟨ob, e1⟩ ⟨np, ns, _, kept, ob, es, ep, e1, e2, e3, e4, e6⟩
def tDct (wi : TI) (g : TG) (tt : TT) (tk tv : TE) (vs : List Nat) : TE := fun ρ G Q => wi ρ G fun J G1 => ∀ d, G1 d = none → ∃ W : Nat → Nat → Hp → Prop, (∃ m, W 0 m (upd G1 d (.dT []))) ∧ ∀ i m G, W i m G →
  (J.stop i G ∧ Q (.ref d) G) ∨ (J.go i G ∧ ∃ Nx : Hp → Prop, (∀ G', Nx G' → ∃ m', m' < m ∧ W (i + 1) m' G') ∧ ∀ x G', J.yld i G x G' → g x (wipe ρ vs) G' fun ρ2 G2 => wipe ρ2 vs = wipe ρ vs ∧ tt ρ2 G2 fun b G3 =>
    if b = true then tk ρ2 G3 fun y G4 => tv ρ2 G4 fun z G5 => ∃ kb ws kk, y = .ref kb ∧ G5 kb = some (.tup (kk.map kV)) ∧ G5 d = some (.dT ws) ∧ ws.length < sizeLine ∧ Nx (upd G5 d (.dT (putK ws kk z))) else Nx G3)
section
variable {X : Cx} {kx vx tg iter : Expr} {ifs : List Expr} {scope : Scope} {own : List (Str × Nat)} {pos : Pos} {wi : TI} {g : TG} {tt : TT} {tk tv : TE}
/-- a block's parts -/
structure DctBlk (X : Cx) (tg iter kx vx : Expr) (ifs : List Expr) (scope : Scope) (own : List (Str × Nat)) (wi : TI) (g : TG) (tt : TT) (tk tv : TE) : Prop where
  i : PI X tg iter wi
  ok : BlkOk X.N X.env.scope scope own
  g : ∀ (s : Shared) (H : Hp) (C : Addr) (cl : List (Str × Addr)) (fp : List Addr), PG (X.blk s H scope (compEnvC scope cl C X.env) fp) tg g
  t : ∀ (s : Shared) (H : Hp) (C : Addr) (cl : List (Str × Addr)) (fp : List Addr), PTs (X.blk s H scope (compEnvC scope cl C X.env) fp) ifs tt
  k : ∀ (s : Shared) (H : Hp) (C : Addr) (cl : List (Str × Addr)) (fp : List Addr), PE (X.blk s H scope (compEnvC scope cl C X.env) fp) kx tk
  v : ∀ (s : Shared) (H : Hp) (C : Addr) (cl : List (Str × Addr)) (fp : List Addr), PE (X.blk s H scope (compEnvC scope cl C X.env) fp) vx tv
  s : ∀ x, foldedSetIterable iter X.env x = pure x
theorem dct_core {ps : List (Addr × Obj)} {t : Shared} {ρ : L2.St} {G : Hp} {Q : VK} {p' : Pos} {use : Option (Value → Sem Unit)} {Qf : Value → Shared → Prop}
    (hu : X.A.units + 1 < cLine) (hc : X.calm = true) (hN : X.N.Nodup) (J : L2.Inv X ps ρ G t) (B : DctBlk X tg iter kx vx ifs scope own wi g tt tk tv) (h : tDct wi g tt tk tv (own.map (·.2)) ρ G Q)
    (fin : ∀ d C t' m G', L2.Inv X ps ρ G' t' → Q (.ref d) G' → t'.heap.Ns C m → FpOk X ps G' C → compPost (model X.prog X.w) X.A X.xe use Qf (.ref d) C (.ok .next) t') :
    wpAny (model X.prog X.w) X.A (comprehension (.DictComp kx vx [⟨tg, iter, ifs, 0⟩] scope pos) scope X.env p' newDict false (eval iter X.env) use) Qf X.xe t := by
  have cells : ∀ y ∈ scope.names, y.2 = .free → ∃ c, X.env.cells.lookup y.1 = some c := fun y hy e => (B.ok.free y hy e).elim (fun q => J.ok.has _ (.inl q)) fun q => J.ok.has _ (.inr q)
  refine wpAny_comprehension_free (use := use) rfl B.s (closure_ok cells) B.ok.kind (fun y hy e => by rw [B.ok.uniq y hy, e]) (thn (B.i.run ps t ρ G _ J h) fun xv t1 hx => thn hx fun itv t2 h2 => ?_)
  obtain ⟨it, fp, at_, Ir, G2, e, J2, T, s2, f2, q⟩ := h2
  subst e
  refine wpAny_newObj_type (newEnv_comp ?_)
  generalize hd : t2.heap.objs.size = d
  have nd : G2 d = none := J2.hok.fresh (Nat.le_of_eq hd)
  obtain ⟨W, ⟨m0, w0⟩, turn⟩ := q d nd
  generalize et : ({ t2 with heap := t2.heap.push { cls := .type "dict", data := .dict #[] } } : Shared) = t3
  have eh : t3.heap = t2.heap.push { cls := .type "dict", data := .dict #[] } := by subst et; rfl
  have J3 : L2.Inv X ps ρ (upd G2 d (.dT [])) t3 := by
    subst et
    refine J2.laid (t' := t2.toks) (fun b o e => Heap.get?_push_of_some _ e) (Nat.le_of_eq hd) ?_
    subst hd
    exact dt_empty t2.heap J2.big
  have low : ∀ b ∈ fp, b < t2.heap.objs.size := fun b hb => let ⟨o, e, _⟩ := T.obj _ _ s2 b hb; Heap.lt_size e
  have f3 : ∀ b ∈ fp, FpOk X ps (upd G2 d (.dT [])) b ∧ b < t3.heap.objs.size := fun b hb => by
    have bd : b ≠ d := by rw [← hd]; exact Nat.ne_of_lt (low b hb)
    refine ⟨⟨by rw [upd_ne bd]; exact (f2 b hb).1, (f2 b hb).2⟩, ?_⟩
    rw [eh, Heap.size_push]; exact Nat.lt_succ_of_lt (low b hb)
  have s3 : at_ 0 t3.heap := T.keep _ _ _ s2 fun b _ o e => by rw [eh]; exact Heap.get?_push_of_some _ e
  have J4 := block_start J3 B.ok hN f3
  generalize ecl : cellsFrom (t3.heap.objs.size + 1) scope.names (cloFrom X.env.cells scope.names []) = cl at J4 ⊢
  have pg := B.g t3 (upd G2 d (.dT [])) t3.heap.objs.size cl fp
  have pt := B.t t3 (upd G2 d (.dT [])) t3.heap.objs.size cl fp
  have pk := B.k t3 (upd G2 d (.dT [])) t3.heap.objs.size cl fp
  have pv := B.v t3 (upd G2 d (.dT [])) t3.heap.objs.size cl fp
  have free3 : ∀ b ∈ fp, (upd G2 d (.dT [])) b = none := fun b hb => (f3 b hb).1.1
  suffices goal : codeAny (model X.prog X.w) X.A (.compStart (.DictComp kx vx [⟨tg, iter, ifs, 0⟩] scope pos) 0 (.ref it) (.ref d) (compEnvC scope cl t3.heap.objs.size X.env)) (compPost (model X.prog X.w) X.A X.xe use Qf (.ref d) t3.heap.objs.size)
      { t3 with heap := pushCells (t3.heap.push { cls := .type "dict", data := .dict #[] }) scope.names } by
    subst ecl; exact goal
  generalize ec : compEnvC scope cl t3.heap.objs.size X.env = ce at J4 pg pt pk pv ⊢
  have lc : ce.locals = t3.heap.objs.size := by subst ec; rfl
  generalize eG : upd G2 d (.dT []) = G3 at J3 J4 pg pt pk pv w0 free3 f3
  generalize e4 : ({ t3 with heap := pushCells (t3.heap.push { cls := .type "dict", data := .dict #[] }) scope.names } : Shared) = t4 at J4 ⊢
  have s4 : at_ 0 t4.heap := T.keep _ _ _ s3 fun b _ o e => by subst e4; exact pushCells_keeps _ _ _ _ (Heap.get?_push_of_some _ e)
  have still : ∀ {ρ' : L2.St} {G' : Hp} {t' : Shared}, L2.Inv (X.blk t3 G3 scope ce fp) [] ρ' G' t' → (∀ b ∈ fp, G' b = none) → ∀ b ∈ fp, FpOk (X.blk t3 G3 scope ce fp) [] G' b := fun {ρ' G' t'} J' hn b hb =>
    ⟨hn b hb, (J'.ok.exf b hb).1, J'.ok.exfs b hb, .inl hb, fun x c e => (J'.ok.exf b hb).2 x c e, fun p hp => absurd (show p ∈ ([] : List (Addr × Obj)) ++ [] from hp) (by simp)⟩
  have loop : codeAny (model X.prog X.w) X.A (.compLoop (.DictComp kx vx [⟨tg, iter, ifs, 0⟩] scope pos) 0 (.ref it) (.ref d) ce) (compPost (model X.prog X.w) X.A X.xe use Qf (.ref d) t3.heap.objs.size) t4 := by
    refine compLoop_anyD (fun n t' => ∃ i G', L2.Inv (X.blk t3 G3 scope ce fp) [] (wipe ρ (own.map (·.2))) G' t' ∧ at_ i t'.heap ∧ (∀ b ∈ fp, G' b = none) ∧ W i n G') ?_ m0 ⟨0, G3, J4, s4, free3, w0⟩
    rintro n t5 ⟨i, G5, J5, s5, n5, w5⟩
    rcases turn i n G5 w5 with ⟨stop, last⟩ | ⟨go, Nx, next, step⟩
    · -- no item is left: back to the def
      refine thnF (T.done (X.blk t3 G3 scope ce fp) rfl rfl rfl hc i [] t5 _ G5 (fun _ _ => False) J5 (still J5 n5) s5 stop) fun r t6 ⟨hr, J6⟩ => ?_
      subst hr
      have J7 : L2.Inv X ps ρ G5 t6 := J3.call' (ch := fp) J6.os J6.base J6.hok J6.bare fun b hb => let ⟨⟨_, a1, a2, a3, a4, a5⟩, _⟩ := f3 b hb; ⟨a3, a1, a4, a5⟩
      have free : G5 ce.locals = none := J6.free
      obtain ⟨m, hn, _⟩ := J6.loc
      have hn : t6.heap.Ns ce.locals m := hn
      rw [lc] at hn free
      exact fin d t3.heap.objs.size t6 m G5 J7 last hn (J3.fpOk (Nat.le_refl _) free)
    · refine thnF (T.item (X.blk t3 G3 scope ce fp) rfl rfl rfl hc i [] t5 _ G5 (fun _ _ => False) J5 (still J5 n5) s5 go) fun r t6 ⟨u, hr, h6⟩ => ?_
      subst hr
      refine thnF h6 fun _ t7 ⟨x, G7, J7, r7, y7, s7, n7⟩ => ?_
      refine thnF (pg.run _ t7 _ G7 x u _ (J7.pinned (still J7 n7) (T.obj _ _ s7)) r7 (step x G7 y7)) fun _ t8 ⟨ρ8, G8, J8, w8, q8⟩ => ?_
      refine thnF (pt.run _ t8 ρ8 G8 _ J8 q8) fun b t9 ⟨G9, J9, q9⟩ => ?_
      have wrap : ∀ {t' : Shared} {G' : Hp}, L2.Inv (X.blk t3 G3 scope ce fp) ([] ++ pinsAt fp t7.heap) ρ8 G' t' → Nx G' → ∃ m, m < n ∧ ∃ i G', L2.Inv (X.blk t3 G3 scope ce fp) [] (wipe ρ (own.map (·.2))) G' t' ∧ at_ i t'.heap ∧ (∀ b ∈ fp, G' b = none) ∧ W i m G' := fun {t' G'} J' nx => by
        obtain ⟨m', lt, w'⟩ := next G' nx
        have held : ∀ b ∈ fp, ∀ o, t7.heap.get? b = some o → t'.heap.get? b = some o ∧ G' b = none := fun b hb o e =>
          have z := J'.pin (b, o) (List.mem_append_right _ (List.mem_append_right _ (mem_pinsAt hb e)))
          ⟨z.1, z.2.1⟩
        have len : (wipe ρ (own.map (·.2))).length = ρ8.length := by rw [← w8, wipe_length]
        have weak := (J'.unpinned (pins := [])).weak len fun j v e => by rw [← w8] at e; exact (wipe_some e).1
        exact ⟨m', lt, i + 1, G', weak, T.keep _ _ _ s7 fun b hb o e => (held b hb o e).1, fun b hb => let ⟨o, e, _⟩ := T.obj _ _ s7 b hb; (held b hb o e).2, w'⟩
      cases b with
      | false => rw [if_neg Bool.false_ne_true] at q9 ⊢; exact wrap J9 q9
      | true =>
        rw [if_pos rfl] at q9 ⊢
        refine thnF (pk.run _ t9 ρ8 G9 _ J9 q9) fun z t10 ⟨yk, G10, J10, r10, q10⟩ => ?_
        refine thnF (pv.run _ t10 ρ8 G10 _ J10 q10) fun z2 t11 ⟨yv, G11, J11, r11, kb, ws, kk, ek, hb, hw, few, nx⟩ => ?_
        subst ek
        exact tupStore (Y := X.blk t3 G3 scope ce fp) hu J11 hw hb few r10 r11 fun t12 J12 => wrap J12 nx
  exact codeAny_compStart_dict loop (T.self X.A 0 _ _ _ s4 loop)
theorem pe_dct (hu : X.A.units + 1 < cLine) (hc : X.calm = true) (hN : X.N.Nodup) (B : DctBlk X tg iter kx vx ifs scope own wi g tt tk tv) : PE X (.DictComp kx vx [⟨tg, iter, ifs, 0⟩] scope pos) (tDct wi g tt tk tv (own.map (·.2))) := by
  refine ⟨fun ps t ρ G Q J h => ?_⟩
  rw [arm_eval_DictComp]
  refine dct_core hu hc hN J B h fun d C t' m G' J' q hn f => ⟨m, hn, fun h2 sb => ?_⟩
  obtain ⟨a0, a1, a2, a3, a4, a5⟩ := f
  exact ⟨.ref d, G', J'.turned (t' := t'.toks) (fun b o hb e => (sb.2 b hb).trans e) a0 a1 a3 a4 a5, rfl, q⟩
theorem ps_setDct {i : Nat} {y : Str} {py spos : Pos} (hu : X.A.units + 1 < cLine) (hc : X.calm = true) (hN : X.N.Nodup) (hy : X.N[i]? = some y) (hyl : X.env.scope.names.lookup y = some .local)
    (hsw : swapsWith (.DictComp kx vx [⟨tg, iter, ifs, 0⟩] scope pos) (some (.Name y py)) spos.line X.env = pure true) (B : DctBlk X tg iter kx vx ifs scope own wi g tt tk tv) :
    PS X (.Assign [.Name y py] (.DictComp kx vx [⟨tg, iter, ifs, 0⟩] scope pos) spos) (tAsg (tDct wi g tt tk tv (own.map (·.2))) (gName i)) := by
  refine ⟨fun ps t ρ G D J h => ?_⟩
  rw [exec_Assign_Name_used _ _ _ _ hsw]
  refine wpAny_bind (wpAny_standAt (wpAny_bind ?_))
  show wpAny _ X.A (do let _ ← comprehension (.DictComp kx vx [⟨tg, iter, ifs, 0⟩] scope pos) scope X.env (firstIterPos [⟨tg, iter, ifs, 0⟩] pos) newDict false (eval iter X.env) (some (assign (.Name y py) X.env))) _ _ t
  have h : tDct wi g tt tk tv (own.map (·.2)) ρ G (fun x G1 => gName i x ρ G1 D.nx) := h
  refine wpAny_bind (thn (dct_core (Qf := fun _ t' => SP X ps D .next t') hu hc hN J B h fun L C t' m G' J' q hn f => ?_) fun _ t' hq => wpAny_pure (wpAny_pure hq))
  show wpAny _ _ (assign (.Name y py) X.env (.ref L)) _ _ _
  refine wpAny_assign_Name (store_ok2 (v := V.ref L) J' hN hy (.inl hyl) rfl (fun t2 J2 ⟨a, sb, ha⟩ => ?_) (.inr hyl))
  obtain ⟨a0, a1, a2, a3, a4, a5⟩ := f
  have ne : C ≠ a := ha.elim (fun z => by rw [z]; exact a1) fun z e => a4 y a z e.symm
  exact ⟨m, hn.sameBut sb ne, fun h3 sb3 => ⟨_, G', J2.turned (t' := t2.toks) (fun b o hb e => (sb3.2 b hb).trans e) a0 a1 a3 a4 a5, q⟩⟩
end
section
variable {K : PySem.W.Frag}
theorem tDct_of {ti : TI3} {tn : Tn} {vs : List Nat} {tt : TT3} {tk tv : TE3} (hin : inN vs tn = true) {σ : L2.St} {H : Hp} {Q : VK} (h : lift K (fun τ M Q => ti τ M fun ds keep M1 => dctW ds keep tn vs tt tk tv τ M1 Q) σ H Q) :
    tDct (liftI K ti) (gOf K tn) (liftT K tt) (lift K tk) (lift K tv) vs σ H Q := by
  obtain ⟨τ, M, Q3, hr, sl, h, L⟩ := h
  refine ⟨τ, M, _, hr, sl, h, fun J ds keep H1 M1 h1 g1 hr1 it D nD => ?_⟩
  obtain ⟨I, i0, turn⟩ := h1 D (hr1.none nD)
  refine ⟨fun i m H' => m = ds.length - i ∧ i ≤ ds.length ∧ Grow K H1 H' ∧ ∃ acc M', I i acc M' ∧ HR K M' H', ⟨_, rfl, Nat.zero_le _, .new nD, [], _, i0, hr1.put (.new nD) ⟨_, upd_same, .nil⟩⟩, ?_⟩
  rintro i m H' ⟨rfl, hi, gH, acc, M', hI, hr'⟩
  obtain ⟨k, hD, step, fin⟩ := turn i acc M' hI hi
  by_cases hl : i < ds.length
  · refine .inr ?_
    have hd : ds[i]? = some ds[i] := List.getElem?_eq_getElem hl
    obtain ⟨go, yld⟩ := it.1 i H' M' _ gH hr' k hd
    refine ⟨go, fun H2 => i + 1 ≤ ds.length ∧ Grow K H1 H2 ∧ ∃ acc M', I (i + 1) acc M' ∧ HR K M' H2, fun H2 q => ⟨ds.length - (i + 1), by omega, rfl, q⟩, fun x H2 y => ?_⟩
    obtain ⟨g2, hr2, rx⟩ := yld x H2 y
    have gg := g1.trans (gH.trans g2)
    refine gOf_ok (vs := vs) (W := wipe σ vs) tn hr2 rx (slots_wipe (sl.mono gg) vs) (step _ hd) fun σ2 τ2 h2 s2 e2 => ⟨e2 hin (wipe_twice vs), τ2, M', _, hr2, s2, h2, fun b H3 M3 h3 g3 hr3 => ?_⟩
    cases b with
    | false =>
      rw [if_neg Bool.false_ne_true] at h3 ⊢
      obtain ⟨M0, sb, hI'⟩ := h3
      exact ⟨hl, (gH.trans g2).trans g3, acc, M0, hI', hr3.sub sb⟩
    | true =>
      rw [if_pos rfl] at h3 ⊢
      refine ⟨τ2, M3, _, hr3, s2.mono g3, h3, fun w H4 y M4 h4 g4 hr4 ry => ?_⟩
      refine ⟨τ2, M4, _, hr4, (s2.mono g3).mono g4, h4, fun w2 H5 z M5 h5 g5 hr5 rz => ?_⟩
      obtain ⟨kk, ek, hz, hD5, M0, sb, hI'⟩ := some3_inv h5
      obtain ⟨xs, hx, qx⟩ := hr5.dit hD5
      obtain ⟨kb, rfl, hb⟩ := keyT_ok (ry.mono g5) ek
      have g6 := Grow.dT (o := .dT (putK xs kk w2)) (K := K) hx
      have hp := hr5.put (o := .dit (putT acc kk z)) g6 ⟨_, upd_same, Paired.mapP (putT_ok qx rz) fun a b z => ⟨z.1, Rep.mono g6 _ z.2⟩⟩
      exact ⟨kb, xs, kk, rfl, hb, hx, by rw [Paired.length qx]; exact hz, hl, ((((gH.trans g2).trans g3).trans g4).trans g5).trans g6, putT acc kk z, M0, hI', hp.sub sb⟩
  · have e : i = ds.length := by omega
    obtain ⟨M0, sb, q⟩ := fin e
    exact .inl ⟨it.2 i H' M' gH hr' k (by omega), L _ _ _ _ q (g1.trans gH) (hr'.sub sb) (.ref D)⟩
end
section
variable {X : Cx} {kx vx tg iter : Expr} {ifs : List Expr} {scope : Scope} {own : List (Str × Nat)} {pos : Pos} {ti : TI3} {tn : Tn} {tt : TT3} {tk tv : TE3}
theorem le_dct (hu : X.A.units + 64 < cLine) (hc : X.calm = true) (hN : X.N.Nodup) (hi : PI X tg iter (liftI X.K ti)) (ok : BlkOk X.N X.env.scope scope own)
    (hg : ∀ (s : Shared) (H : Hp) (C : Addr) (cl : List (Str × Addr)) (fp : List Addr), PG (X.blk s H scope (compEnvC scope cl C X.env) fp) tg (gOf X.K tn))
    (ht : ∀ (s : Shared) (H : Hp) (C : Addr) (cl : List (Str × Addr)) (fp : List Addr), PTs (X.blk s H scope (compEnvC scope cl C X.env) fp) ifs (liftT X.K tt))
    (hk : ∀ (s : Shared) (H : Hp) (C : Addr) (cl : List (Str × Addr)) (fp : List Addr), PE (X.blk s H scope (compEnvC scope cl C X.env) fp) kx (lift X.K tk))
    (he : ∀ (s : Shared) (H : Hp) (C : Addr) (cl : List (Str × Addr)) (fp : List Addr), PE (X.blk s H scope (compEnvC scope cl C X.env) fp) vx (lift X.K tv)) (hs : ∀ x, foldedSetIterable iter X.env x = pure x) (hin : inN (own.map (·.2)) tn = true) :
    PE X (.DictComp kx vx [⟨tg, iter, ifs, 0⟩] scope pos) (lift X.K fun τ M Q => ti τ M fun ds keep M1 => dctW ds keep tn (own.map (·.2)) tt tk tv τ M1 Q) :=
  PEw (pe_dct (by omega) hc hN ⟨hi, ok, hg, ht, hk, he, hs⟩) fun σ H Q h => tDct_of hin h
theorem ls_dct {i : Nat} {y : Str} {py spos : Pos} (hu : X.A.units + 64 < cLine) (hc : X.calm = true) (hN : X.N.Nodup) (hy : X.N[i]? = some y) (hyl : X.env.scope.names.lookup y = some .local)
    (hsw : swapsWith (.DictComp kx vx [⟨tg, iter, ifs, 0⟩] scope pos) (some (.Name y py)) spos.line X.env = pure true) (hi : PI X tg iter (liftI X.K ti)) (ok : BlkOk X.N X.env.scope scope own)
    (hg : ∀ (s : Shared) (H : Hp) (C : Addr) (cl : List (Str × Addr)) (fp : List Addr), PG (X.blk s H scope (compEnvC scope cl C X.env) fp) tg (gOf X.K tn))
    (ht : ∀ (s : Shared) (H : Hp) (C : Addr) (cl : List (Str × Addr)) (fp : List Addr), PTs (X.blk s H scope (compEnvC scope cl C X.env) fp) ifs (liftT X.K tt))
    (hk : ∀ (s : Shared) (H : Hp) (C : Addr) (cl : List (Str × Addr)) (fp : List Addr), PE (X.blk s H scope (compEnvC scope cl C X.env) fp) kx (lift X.K tk))
    (he : ∀ (s : Shared) (H : Hp) (C : Addr) (cl : List (Str × Addr)) (fp : List Addr), PE (X.blk s H scope (compEnvC scope cl C X.env) fp) vx (lift X.K tv)) (hs : ∀ x, foldedSetIterable iter X.env x = pure x) (hin : inN (own.map (·.2)) tn = true) :
    PS X (.Assign [.Name y py] (.DictComp kx vx [⟨tg, iter, ifs, 0⟩] scope pos) spos) (liftS X.K fun D τ M => ti τ M fun ds keep M1 => dctW ds keep tn (own.map (·.2)) tt tk tv τ M1 fun d M2 => D.nx (τ.set i (some d)) M2) :=
  PSw (ps_setDct (by omega) hc hN hy hyl hsw ⟨hi, ok, hg, ht, hk, he, hs⟩) fun D σ H h => by
    obtain ⟨τ, M, D3, hr, sl, h, L⟩ := h
    exact tDct_of (Q := fun x H1 => gName i x σ H1 D.nx) hin ⟨τ, M, fun d M2 => D3.nx (τ.set i (some d)) M2, hr, sl, h, fun v H1 d M1 h1 g1 hr1 r1 => L.nx _ _ _ _ h1 g1 hr1 ((sl.mono g1).set r1 i)⟩
end
end G3
set_option Elab.async false
set_option linter.all false
set_option maxRecDepth 100000
set_option maxHeartbeats 8000000
/-! the own syntax against the text, and what it asks is enough -/
namespace G3
open PySem PySem.Spec PyProof.Rows L2

/-! ### looks at the text -/
def nStar : Expr → Bool
  | .Starred _ _ => false
  | _ => true
def nSl : Expr → Bool
  | .Slice _ _ _ _ => false
  | _ => true
def nSet : Expr → Bool
  | .Set _ _ _ => false
  | _ => true
def nComp : Expr → Bool
  | .ListComp _ _ _ _ | .SetComp _ _ _ _ | .DictComp _ _ _ _ _ => false
  | _ => true
def nSuper : Expr → Bool
  | .Call (.Name _ _) [] [] _ => false
  | _ => true
theorem star1 {e : Expr} {es : List Expr} {env : Env} (h : nStar e = true) : starEach (e :: es) env = (false, eval e env) :: starEach es env := by
  cases e <;> first | rfl | cases h
theorem starAny : ∀ {es : List Expr} {env : Env} {pos : Pos}, es.all nStar = true → (backTo pos (starEach es env)).any (·.1) = false
  | [], _, _, _ => rfl
  | e :: es, env, pos, h => by
    rw [List.all_cons, Bool.and_eq_true] at h
    rw [star1 h.1]
    have := starAny (env := env) (pos := pos) h.2
    unfold backTo at this ⊢
    rw [List.map_cons, List.any_cons, this]
    rfl
theorem starAll : ∀ {es : List Expr} {env : Env} {pos : Pos}, es.all nStar = true → (backTo pos (starEach es env)).all (fun x => !x.1) = true
  | [], _, _, _ => rfl
  | e :: es, env, pos, h => by
    rw [List.all_cons, Bool.and_eq_true] at h
    rw [star1 h.1]
    have := starAll (env := env) (pos := pos) h.2
    unfold backTo at this ⊢
    rw [List.map_cons, List.all_cons, this]
    rfl
theorem few_ok {es : List Expr} {env : Env} {pos : Pos} (h : es.all nStar = true) (hl : es.length < 20) :
    ((backTo pos (starEach es env)).all (fun x => !x.1) && (backToKw pos (keywordEach [] env)).all (fun x => x.1.isSome) && decide (es.length + ([] : List Keyword).length + (if ([] : List Keyword).isEmpty then 0 else 1) < 30)) = true := by
  rw [starAll h]
  show (true && true && decide (es.length + 0 + 0 < 30)) = true
  simp
  omega
theorem plain_ix {b : Expr} (h : nSl b = true) : PlainIx b := by
  intro o i
  cases b <;> first | rfl | cases h
theorem mark_ok {op : CmpOp} {b : Expr} (h : nSet b = true) : behindInMarks op b = false := by
  cases b <;> first | rfl | cases h
theorem fold_ok {it : Expr} {env : Env} (h : nSet it = true) : ∀ x, foldedSetIterable it env x = pure x := by
  intro x
  cases it <;> first | rfl | cases h
theorem sw_no {e : Expr} {t : Option Expr} {l : Nat} {env : Env} (h : nComp e = true) : swapsWith e t l env = pure false := by
  cases e <;> first | rfl | cases h
theorem base_ok {o : Expr} {m : Str} {env : Env} {w : Sem Value} (h : nSuper o = true) : attributeBase o m env w = w := by
  unfold attributeBase
  split
  · cases h
  · rfl
theorem swn {x : Str} {p : Pos} {v : Expr} {env : Env} : swappedStores [.Name x p] v env = pure none := rfl
theorem sws {x y : Expr} {p : Pos} {v : Expr} {env : Env} : swappedStores [.Subscript x y p] v env = pure none := rfl
theorem swt {ts : List Expr} {k : Nat} {p : Pos} {v : Expr} {l : Nat} {env : Env} : swapsWith v (some (.Tuple ts k p)) l env = pure false := by
  cases v <;> rfl
theorem swu {a b : Expr} {p : Pos} {v : Expr} {l : Nat} {env : Env} : swapsWith v (some (.Subscript a b p)) l env = pure false := by
  cases v <;> rfl
theorem sw_c {y : Str} {py p : Pos} {elt : Expr} {gens : List Comprehension} {scope : Scope} {line : Nat} {env : Env} : swapsWith (.ListComp elt gens scope p) (some (.Name y py)) line env =
    pure (env.blockKind == .function && env.kindOf y == some .local && py.line == p.line && !(scope.names.any fun (n, k) => n == y && (k == .local || k == .cell))) := rfl
/-- what swapsWith says of a comprehension stored under a name -/
def swB (sc : Scope) (y : Str) (py : Pos) (v : Expr) : Bool := match v with
  | .ListComp _ _ scope p => sc.names.lookup y == some .local && py.line == p.line && !(scope.names.any fun (n, k) => n == y && (k == .local || k == .cell))
  | .SetComp _ _ _ _ => true
  | .DictComp _ _ _ scope p => sc.names.lookup y == some .local && py.line == p.line && !(scope.names.any fun (n, k) => n == y && (k == .local || k == .cell))
  | _ => false
theorem sw_d {y : Str} {py p : Pos} {kx vx : Expr} {gens : List Comprehension} {scope : Scope} {line : Nat} {env : Env} : swapsWith (.DictComp kx vx gens scope p) (some (.Name y py)) line env =
    pure (env.blockKind == .function && env.kindOf y == some .local && py.line == p.line && !(scope.names.any fun (n, k) => n == y && (k == .local || k == .cell))) := rfl
theorem swB_no {sc : Scope} {y : Str} {py : Pos} {v : Expr} {l : Nat} {env : Env} (hs : env.scope = sc) (h : swB sc y py v = false) : swapsWith v (some (.Name y py)) l env = pure false := by
  subst hs
  cases v with
  | ListComp elt gens scope p =>
    rw [sw_c]
    have e : (env.blockKind == .function && env.kindOf y == some .local && py.line == p.line && !(scope.names.any fun (n, k) => n == y && (k == .local || k == .cell))) = false := by
      have h' : (env.kindOf y == some .local && py.line == p.line && !(scope.names.any fun (n, k) => n == y && (k == .local || k == .cell))) = false := h
      rw [Bool.and_assoc, Bool.and_assoc]
      rw [Bool.and_assoc] at h'
      rw [h', Bool.and_false]
    rw [e]
  | SetComp _ _ _ _ => cases h
  | DictComp kx vx gens scope p =>
    rw [sw_d]
    have e : (env.blockKind == .function && env.kindOf y == some .local && py.line == p.line && !(scope.names.any fun (n, k) => n == y && (k == .local || k == .cell))) = false := by
      have h' : (env.kindOf y == some .local && py.line == p.line && !(scope.names.any fun (n, k) => n == y && (k == .local || k == .cell))) = false := h
      rw [Bool.and_assoc, Bool.and_assoc]
      rw [Bool.and_assoc] at h'
      rw [h', Bool.and_false]
    rw [e]
  | _ => rfl
theorem swB_yesD {sc : Scope} {y : Str} {py p : Pos} {kx vx : Expr} {gens : List Comprehension} {scope : Scope} {l : Nat} {env : Env} (hs : env.scope = sc) (hk : sc.kind = .function) (h : swB sc y py (.DictComp kx vx gens scope p) = true) :
    swapsWith (.DictComp kx vx gens scope p) (some (.Name y py)) l env = pure true := by
  subst hs
  rw [sw_d]
  have hb : env.blockKind = .function := by unfold Env.blockKind; rw [hk]; rfl
  have h' : (env.kindOf y == some .local && py.line == p.line && !(scope.names.any fun (n, k) => n == y && (k == .local || k == .cell))) = true := h
  rw [hb, Bool.and_assoc, Bool.and_assoc]
  rw [Bool.and_assoc] at h'
  rw [h']; rfl
theorem swB_yes {sc : Scope} {y : Str} {py p : Pos} {elt : Expr} {gens : List Comprehension} {scope : Scope} {l : Nat} {env : Env} (hs : env.scope = sc) (hk : sc.kind = .function) (h : swB sc y py (.ListComp elt gens scope p) = true) :
    swapsWith (.ListComp elt gens scope p) (some (.Name y py)) l env = pure true := by
  subst hs
  rw [sw_c]
  have hb : env.blockKind = .function := by unfold Env.blockKind; rw [hk]; rfl
  have h' : (env.kindOf y == some .local && py.line == p.line && !(scope.names.any fun (n, k) => n == y && (k == .local || k == .cell))) = true := h
  rw [hb, Bool.and_assoc, Bool.and_assoc]
  rw [Bool.and_assoc] at h'
  rw [h']; rfl
def swNames (sc : Scope) (ts : List Expr) : List Str := ts.filterMap fun x => match x with
  | .Name id pos => if (sc.names.lookup id == some .local && pos.line == (ts.head?.map (·.pos.line)).getD 0) = true then some id else none
  | _ => none
def swNone (sc : Scope) (ts vs : List Expr) : Bool := (!(ts.length == 2 || ts.length == 3) || vs.length != ts.length) || ((swNames sc ts).length != ts.length || (swNames sc ts).eraseDups.length != (swNames sc ts).length) || vs.all (foldedForSure 8)
theorem swNone_ok {ts vs : List Expr} {k k2 : Nat} {p p2 : Pos} {sc : Scope} {env : Env} (hs : env.scope = sc) (h : swNone sc ts vs = true) : swappedStores [.Tuple ts k p] (.Tuple vs k2 p2) env = pure none := by
  subst hs
  unfold swappedStores
  simp only []
  split
  · rfl
  · rename_i h1
    split
    · rfl
    · split
      · rfl
      · rename_i h3
        split
        · rfl
        · rename_i h4
          exfalso
          unfold swNone at h
          rw [Bool.or_eq_true, Bool.or_eq_true] at h
          rcases h with (h | h) | h
          · exact h1 (by rw [h, Bool.true_or])
          · exact h3 h
          · exact h4 h
def swSome (sc : Scope) (x y : Str) (px py : Pos) (a b : Expr) : Bool :=
  sc.names.lookup x == some .local && sc.names.lookup y == some .local && py.line == px.line && x != y && nStar a && nStar b && !([a, b].all (foldedForSure 8)) && !([a, b].all (constantsAlone 8))
theorem swSome_ok {x y : Str} {px py pt p2 : Pos} {a b : Expr} {k k2 : Nat} {sc : Scope} {env : Env} (hs : env.scope = sc) (hk : sc.kind = .function) (h : swSome sc x y px py a b = true) :
    swappedStores [.Tuple [.Name x px, .Name y py] k pt] (.Tuple [a, b] k2 p2) env = pure (some [x, y]) := by
  subst hs
  unfold swSome at h
  simp only [Bool.and_eq_true, Bool.not_eq_true', beq_iff_eq, bne_iff_ne] at h
  obtain ⟨⟨⟨⟨⟨⟨⟨hx, hy⟩, hl⟩, hne⟩, na⟩, nb⟩, hf⟩, hc⟩ := h
  have hb : env.blockKind = .function := by unfold Env.blockKind; rw [hk]; rfl
  have kx : env.kindOf x = some .local := hx
  have ky : env.kindOf y = some .local := hy
  have st : ([a, b].any fun x => match x with
      | Expr.Starred value pos => true
      | x => false) = false := by
    have f : ∀ z : Expr, (match z with
      | Expr.Starred value pos => true
      | z => false) = !nStar z := fun z => by cases z <;> rfl
    rw [List.any_cons, List.any_cons, f a, f b, na, nb]; rfl
  have ed : [x, y].eraseDups = [x, y] := by
    simp [List.eraseDups_cons, hne.symm]
  unfold swappedStores
  simp only [hb, st, hf, hc]
  simp [kx, ky, hl, ed, Expr.pos]
  intro h
  exfalso
  rcases h with h | h
  · split at h
    · cases na
    · cases h
  · split at h
    · cases nb
    · cases h

/-! ### the check -/
structure Ck where
  N : List Str
  bl : List Str
  im : List (Str × String)
  cn : List (Str × GV) := []
def visB (sc : Scope) (x : Str) : Bool := match sc.names.lookup x with
  | some .local => true
  | some .cell => true
  | some .free => true
  | _ => false
theorem visB_ok {sc : Scope} {x : Str} (h : visB sc x = true) : Vis sc x := by
  unfold visB at h
  split at h
  · exact .inl (by assumption)
  · exact .inr (.inl (by assumption))
  · exact .inr (.inr (by assumption))
  · cases h
def locB (sc : Scope) (x : Str) : Bool := match sc.names.lookup x with
  | some .local => true
  | some .cell => true
  | _ => false
def glB (sc : Scope) (x : Str) : Bool := decide (sc.names.lookup x = some .globalImplicit)
def okName (x : Str) : Bool := !(x == ("__debug__" : Str)) && !(x == ("__classdict__" : Str)) && !(x == ("__name__" : Str))
def chkC : D → Const → Bool
  | .non, .none => true
  | .bl b, .bool b' => b == b'
  | .int i, .int j => i == j
  | .str x, .str y => x == y
  | _, _ => false
def Bi.nm : Bi → Str
  | .len => "len" | .abs => "abs" | .int => "int" | .max1 => "max" | .max2 => "max" | .min1 => "min" | .min2 => "min" | .sum => "sum" | .sorted => "sorted" | .sortedP => "sorted" | .list => "list" | .tuple => "tuple" | .all => "all" | .any => "any"
  | .gcd => "gcd" | .lcm => "lcm" | .isi _ => "isinstance"
/-- by the built-in names, a type's name, or imported -/
inductive BiK | fn (id : String) | ty (id : String) | im (id : String) | no
def Bi.k : Bi → BiK
  | .len => .fn "len" | .abs => .fn "abs" | .int => .ty "int" | .max1 => .fn "max" | .max2 => .fn "max" | .min1 => .fn "min" | .min2 => .fn "min" | .sum => .fn "sum" | .sorted => .fn "sorted" | .sortedP => .fn "sorted" | .list => .ty "list" | .tuple => .ty "tuple"
  | .all => .fn "all" | .any => .fn "any" | .gcd => .im "math.gcd" | .lcm => .im "math.lcm" | .isi _ => .no
def relB (scope sc : Scope) : Scope := { scope with names := scope.names.map fun (n, k) => if (k == .free && sc.kind == .function && sc.names.lookup n == some .cell) then (n, .cell) else (n, k) }
mutual
def chkTn (N : List Str) (ss : Scope) : Tn → Expr → Bool
  | .nm i, e => (match e with
    | .Name x _ => decide (N[i]? = some x) && locB ss x
    | _ => false)
  | .tup ts, e => (match e with
    | .Tuple es _ _ => chkTns N ss ts es
    | _ => false)
def chkTns (N : List Str) (ss : Scope) : TnL → List Expr → Bool
  | .nil, es => es.isEmpty
  | .cons t ts, es => (match es with
    | e :: r => nStar e && chkTn N ss t e && chkTns N ss ts r
    | [] => false)
end
def strN (l : List (String × Nat)) : List (Str × Nat) := l.map fun p => (Str.ofString p.1, p.2)
def isTup : Expr → Bool
  | .Tuple _ _ _ => true
  | _ => false
mutual
def chkE (C : Ck) : Scope → E → Expr → Bool
  | sc, .v i, e => (match e with
    | .Name x _ => decide (C.N[i]? = some x) && visB sc x && okName x
    | _ => false)
  | sc, .c d, e => (match e with
    | .Constant k _ _ => chkC d k
    | _ => false)
  | sc, .tup es, e => (match e with
    | .Tuple xs _ _ => chkEL C sc es xs && decide (xs.length ≤ 1000)
    | _ => false)
  | sc, .ktup es, e => (match e with
    | .Tuple xs _ _ => chkEL C sc es xs && decide (xs.length ≤ 1000)
    | _ => false)
  | sc, .lst es, e => (match e with
    | .List xs _ => chkEL C sc es xs && decide (xs.length ≤ 1000)
    | _ => false)
  | sc, .bin o a b, e => (match e with
    | .BinOp l op r _ => decide (op = o.op) && chkE C sc a l && chkE C sc b r
    | _ => false)
  | sc, .neg a, e => (match e with
    | .UnaryOp .USub x _ => chkE C sc a x
    | _ => false)
  | sc, .cmp o a b, e => (match e with
    | .Compare l [op] [r] _ => decide (op = o.op) && chkE C sc a l && chkE C sc b r && nSet r
    | _ => false)
  | sc, .chain o o' a b c, e => (match e with
    | .Compare l [op, op'] [r, r'] _ => decide (op = o.op) && decide (op' = o'.op) && chkE C sc a l && chkE C sc b r && chkE C sc c r' && nSet r'
    | _ => false)
  | sc, .and es, e => (match e with
    | .BoolOp .And xs _ => chkEL C sc es xs && !xs.isEmpty
    | _ => false)
  | sc, .or es, e => (match e with
    | .BoolOp .Or xs _ => chkEL C sc es xs && !xs.isEmpty
    | _ => false)
  | sc, .not a, e => (match e with
    | .UnaryOp .Not x _ => chkE C sc a x
    | _ => false)
  | sc, .ite t a b, e => (match e with
    | .IfExp x y z _ => chkE C sc t x && chkE C sc a y && chkE C sc b z
    | _ => false)
  | sc, .ix a b, e => (match e with
    | .Subscript x y _ => chkE C sc a x && chkE C sc b y && nSl y
    | _ => false)
  | sc, .sl a lo hi, e => (match e with
    | .Subscript x (.Slice l h none _) _ => chkE C sc a x && chkO C sc lo l && chkO C sc hi h
    | _ => false)
  | sc, .rev a, e => (match e with
    | .Subscript x (.Slice none none (some (.UnaryOp .USub (.Constant (.int 1) _ _) _)) _) _ => chkE C sc a x
    | _ => false)
  | sc, .call f _ es, e => (match e with
    | .Call (.Name x _) xs [] _ => decide (x = Str.ofString f) && glB sc x && okName x && chkEL C sc es xs
    | _ => false)
  | sc, .bi b es, e => (match e with
    | .Call (.Name x _) xs [] _ => decide (x = b.nm) && glB sc x && chkEL C sc es xs && !xs.isEmpty && (match b.k with
      | .fn _ => C.bl.contains x
      | .ty _ => C.bl.contains x
      | .im id => C.im.contains (x, id)
      | .no => false)
    | _ => false)
  | sc, .isi a ts, e => (match e with
    | .Call (.Name x _) [y, .Name z _] [] _ => decide (x = "isinstance") && glB sc x && C.bl.contains x && chkE C sc a y && nStar y && (match ts with
      | [t] => decide (z = Str.ofString t) && askTy.contains t && glB sc z && C.bl.contains z
      | _ => false)
    | .Call (.Name x _) [y, .Tuple [.Name z _, .Name z' _] _ _] [] _ => decide (x = "isinstance") && glB sc x && C.bl.contains x && chkE C sc a y && nStar y && (match ts with
      | [t, t'] => decide (z = Str.ofString t) && askTy.contains t && glB sc z && C.bl.contains z && decide (z' = Str.ofString t') && askTy.contains t' && glB sc z' && C.bl.contains z'
      | _ => false)
    | _ => false)
  | sc, .lrg a, e => (match e with
    | .Call (.Name x _) [.Call (.Name y _) [z] [] _] [] _ => decide (x = "list") && glB sc x && C.bl.contains x && decide (y = "range") && glB sc y && C.bl.contains y && chkE C sc a z && nStar z
    | _ => false)
  | sc, .me m o es, e => (match e with
    | .Call (.Attribute x nm ap) xs [] p => decide (nm = m.nm) && chkE C sc o x && chkEL C sc es xs && nSuper x && (ap.endLine == p.line) && decide (xs.length < 20)
    | _ => false)
  | sc, .lc own tn it t b, e => (match e with
    | .ListComp elt [⟨tg, iter, ifs, 0⟩] scope _ => blkC C.N sc scope (strN own) && chkTn C.N scope tn tg && inN (own.map (·.2)) tn && chkI C sc it iter && nSet iter && isTup tg == (match it with
        | .enum _ => true
        | .zip _ _ => true
        | .zip3 _ _ _ => true
        | _ => isTup tg) && chkTO C (relB scope sc) t ifs && chkE C (relB scope sc) b elt
    | _ => false)
  | sc, .lc2 own tn it vs1 tn1 it1 b, e => (match e with
    | .ListComp elt [⟨tg, iter, [], 0⟩, ⟨tg1, iter1, [], 0⟩] scope _ => blkC C.N sc scope (strN own) && chkTn C.N scope tn tg && inN (own.map (·.2)) tn && chkI C sc it iter && nSet iter && isTup tg == (match it with
        | .enum _ => true
        | .zip _ _ => true
        | .zip3 _ _ _ => true
        | _ => isTup tg) && chkTn C.N scope tn1 tg1 && inN vs1 tn1 && chkI C (relB scope sc) it1 iter1 && nSet iter1 && isTup tg1 == (match it1 with
        | .enum _ => true
        | .zip _ _ => true
        | .zip3 _ _ _ => true
        | _ => isTup tg1) && (vs1.all fun i => (own.map (·.2)).contains i) && chkE C (relB scope sc) b elt
    | _ => false)
  | sc, .dc own tn it t k b, e => (match e with
    | .DictComp kx vx [⟨tg, iter, ifs, 0⟩] scope _ => blkC C.N sc scope (strN own) && chkTn C.N scope tn tg && inN (own.map (·.2)) tn && chkI C sc it iter && nSet iter && isTup tg == (match it with
        | .enum _ => true
        | .zip _ _ => true
        | .zip3 _ _ _ => true
        | _ => isTup tg) && chkTO C (relB scope sc) t ifs && chkE C (relB scope sc) k kx && chkE C (relB scope sc) b vx
    | _ => false)
  | sc, .dct own tn it t k b, e => (match e with
    | .DictComp kx vx [⟨tg, iter, ifs, 0⟩] scope _ => blkC C.N sc scope (strN own) && chkTn C.N scope tn tg && inN (own.map (·.2)) tn && chkI C sc it iter && nSet iter && isTup tg == (match it with
        | .enum _ => true
        | .zip _ _ => true
        | .zip3 _ _ _ => true
        | _ => isTup tg) && chkTO C (relB scope sc) t ifs && chkE C (relB scope sc) k kx && chkE C (relB scope sc) b vx
    | _ => false)
  | sc, .dic0, e => (match e with
    | .Dict [] [] _ => true
    | _ => false)
  | sc, .g x v, e => (match e with
    | .Name y _ => decide (y = Str.ofString x) && glB sc y && okName y && C.cn.contains (y, v)
    | _ => false)
def chkEL (C : Ck) : Scope → EL → List Expr → Bool
  | sc, .nil, xs => xs.isEmpty
  | sc, .cons e es, xs => (match xs with
    | x :: r => nStar x && chkE C sc e x && chkEL C sc es r
    | [] => false)
def chkO (C : Ck) : Scope → EO → Option Expr → Bool
  | sc, .no, o => o.isNone
  | sc, .ex e, o => (match o with
    | some x => chkE C sc e x
    | none => false)
def chkTO (C : Ck) : Scope → EO → List Expr → Bool
  | sc, .no, l => l.isEmpty
  | sc, .ex e, l => (match l with
    | [x] => chkE C sc e x
    | _ => false)
def chkI (C : Ck) : Scope → It3 → Expr → Bool
  | sc, .seq a, e => chkE C sc a e
  | sc, .rng1 a, e => (match e with
    | .Call (.Name y _) [z] [] _ => decide (y = "range") && glB sc y && C.bl.contains y && chkE C sc a z && nStar z
    | _ => false)
  | sc, .rng2 a b, e => (match e with
    | .Call (.Name y _) [z, z'] [] _ => decide (y = "range") && glB sc y && C.bl.contains y && chkE C sc a z && nStar z && chkE C sc b z' && nStar z'
    | _ => false)
  | sc, .rng3 a b c, e => (match e with
    | .Call (.Name y _) [z, z', z''] [] _ => decide (y = "range") && glB sc y && C.bl.contains y && chkE C sc a z && nStar z && chkE C sc b z' && nStar z' && chkE C sc c z'' && nStar z''
    | _ => false)
  | sc, .enum a, e => (match e with
    | .Call (.Name y _) [z] [] _ => decide (y = "enumerate") && glB sc y && C.bl.contains y && chkE C sc a z && nStar z
    | _ => false)
  | sc, .zip a b, e => (match e with
    | .Call (.Name y _) [z, z'] [] _ => decide (y = "zip") && glB sc y && C.bl.contains y && chkE C sc a z && nStar z && chkE C sc b z' && nStar z'
    | _ => false)
  | sc, .zip3 a b c, e => (match e with
    | .Call (.Name y _) [z, z', z''] [] _ => decide (y = "zip") && glB sc y && C.bl.contains y && chkE C sc a z && nStar z && chkE C sc b z' && nStar z' && chkE C sc c z'' && nStar z''
    | _ => false)
end
end G3
set_option Elab.async false
set_option linter.all false
set_option maxRecDepth 100000
set_option maxHeartbeats 8000000
namespace G3
open PySem PySem.Spec PyProof.Rows L2
mutual
def callsE : E → List (String × Sp3)
  | .v _ | .c _ | .dic0 | .g _ _ => []
  | .tup es | .ktup es | .lst es | .and es | .or es => callsEL es
  | .bin _ a b | .cmp _ a b | .ix a b => callsE a ++ callsE b
  | .neg a | .not a | .rev a | .lrg a => callsE a
  | .isi a _ => callsE a
  | .chain _ _ a b c => callsE a ++ (callsE b ++ callsE c)
  | .ite a b c => callsE a ++ (callsE b ++ callsE c)
  | .sl a lo hi => callsE a ++ (callsO lo ++ callsO hi)
  | .call x sp es => (x, sp) :: callsEL es
  | .bi _ es => callsEL es
  | .me _ o es => callsE o ++ callsEL es
  | .lc _ _ it t e => callsI it ++ (callsO t ++ callsE e)
  | .lc2 _ _ it _ _ it1 e => callsI it ++ (callsI it1 ++ callsE e)
  | .dc _ _ it t k e => callsI it ++ (callsO t ++ (callsE k ++ callsE e))
  | .dct _ _ it t k e => callsI it ++ (callsO t ++ (callsE k ++ callsE e))
def callsEL : EL → List (String × Sp3)
  | .nil => []
  | .cons e es => callsE e ++ callsEL es
def callsO : EO → List (String × Sp3)
  | .no => []
  | .ex e => callsE e
def callsI : It3 → List (String × Sp3)
  | .seq a | .rng1 a | .enum a => callsE a
  | .rng2 a b | .zip a b => callsE a ++ callsE b
  | .rng3 a b c | .zip3 a b c => callsE a ++ (callsE b ++ callsE c)
end
def GoodAll (X : Cx) (l : List (String × Sp3)) : Prop := ∀ p ∈ l, Good X p.1 p.2
theorem GoodAll.l {X : Cx} {l m : List (String × Sp3)} (h : GoodAll X (l ++ m)) : GoodAll X l := fun p hp => h p (List.mem_append_left _ hp)
theorem GoodAll.r {X : Cx} {l m : List (String × Sp3)} (h : GoodAll X (l ++ m)) : GoodAll X m := fun p hp => h p (List.mem_append_right _ hp)
theorem GoodAll.hd {X : Cx} {p : String × Sp3} {m : List (String × Sp3)} (h : GoodAll X (p :: m)) : Good X p.1 p.2 := h p List.mem_cons_self
theorem GoodAll.tl {X : Cx} {p : String × Sp3} {m : List (String × Sp3)} (h : GoodAll X (p :: m)) : GoodAll X m := fun q hq => h q (List.mem_cons_of_mem _ hq)
structure Cq (X : Cx) (C : Ck) (sc : Scope) : Prop where
  n : X.N = C.N
  hs : X.env.scope = sc
  nd : C.N.Nodup
  calm : X.calm = true
  hu : X.A.units + 64 < cLine
  bl : ∀ x ∈ C.bl, X.mg x = none
  im : ∀ p ∈ C.im, X.mg p.1 = some (.builtin p.2)
  cn : ∀ p ∈ C.cn, ∃ v u, X.mg p.1 = some u ∧ RelV v u ∧ ∀ H, Rep X.K H v p.2.d
  kind : sc.kind = .function
  xe : X.xe = fun _ _ => False
section
variable {X : Cx} {C : Ck} {sc : Scope}
theorem Cq.vis (cx : Cq X C sc) {x : Str} (h : visB sc x = true) : Vis X.env.scope x := by rw [cx.hs]; exact visB_ok h
theorem Cq.gl (cx : Cq X C sc) {x : Str} (h : glB sc x = true) : Gl X x := by
  have e : sc.names.lookup x = some .globalImplicit := of_decide_eq_true h
  show X.env.scope.names.lookup x = some .globalImplicit
  rw [cx.hs]; exact e
theorem Cq.hp (cx : Cq X C sc) : PassesOwn (model X.prog X.w) X.A X.env X.xe := by rw [cx.xe]; exact PassesOwn.never
theorem okName_ok {x : Str} (h : okName x = true) : (x == ("__debug__" : Str)) = false ∧ (x == ("__classdict__" : Str)) = false ∧ x ≠ "__name__" := by
  unfold okName at h
  simp only [Bool.and_eq_true, Bool.not_eq_true'] at h
  exact ⟨h.1.1, h.1.2, fun e => by rw [e] at h; have := h.2; simp at this⟩
theorem lookup_rel {scope sc : Scope} {x : Str} {k : NameKind} (hk : k ≠ .free) (h : scope.names.lookup x = some k) : (relB scope sc).names.lookup x = some k := by
  unfold relB
  dsimp only
  generalize scope.names = l at h
  induction l with
  | nil => simp at h
  | cons p r ih =>
    obtain ⟨n, k'⟩ := p
    rw [List.map_cons]
    rw [List.lookup_cons] at h
    cases e : x == n with
    | true =>
      rw [e] at h
      cases h
      have : (k == NameKind.free && sc.kind == ScopeKind.function && List.lookup n sc.names == some NameKind.cell) = false := by
        cases k <;> first | rfl | exact absurd rfl hk
      dsimp only
      rw [this]
      simp [List.lookup_cons, e]
    | false =>
      rw [e] at h
      dsimp only at h ⊢
      by_cases c : (k' == NameKind.free && sc.kind == ScopeKind.function && List.lookup n sc.names == some NameKind.cell) = true
      · rw [if_pos c]; simp only [List.lookup_cons, e]; exact ih h
      · rw [if_neg c]; simp only [List.lookup_cons, e]; exact ih h
/-- what may be stored to -/
def LocOk (X : Cx) (ss : Scope) : Prop := ∀ x, locB ss x = true → Loc X.env.scope x ∧ (X.fn x = true ∨ X.env.scope.names.lookup x = some .local)
theorem assignEach1 {e : Expr} {es : List Expr} {env : Env} (h : nStar e = true) : assignEach (e :: es) env = (false, assign e env) :: assignEach es env := by
  cases e <;> first | rfl | cases h
theorem chkTns_star {N : List Str} {ss : Scope} : ∀ {ts : TnL} {es : List Expr}, chkTns N ss ts es = true → (∀ env : Env, (assignEach es env).length = lenN ts ∧ (assignEach es env).findIdx? (·.1) = none)
  | .nil, es, h => by
    unfold chkTns at h
    cases es with
    | nil => exact fun env => ⟨rfl, rfl⟩
    | cons _ _ => cases h
  | .cons t ts, [], h => by cases h
  | .cons t ts, e :: es, h => by
    unfold chkTns at h
    simp only [Bool.and_eq_true] at h
    obtain ⟨⟨h1, h2⟩, h3⟩ := h
    intro env
    obtain ⟨e1, e2⟩ := chkTns_star h3 env
    rw [assignEach1 h1]
    exact ⟨by rw [List.length_cons, e1]; rfl, by rw [List.findIdx?_cons]; simp [e2]⟩
mutual
theorem sndTn (hN : X.N = C.N) (nd : C.N.Nodup) (hc : X.calm = true) {ss : Scope} (lo : LocOk X ss) : ∀ (t : Tn) (e : Expr), chkTn C.N ss t e = true → PG X e (gOf X.K t)
  | .nm i, e, h => by
    unfold chkTn at h
    split at h
    · rename_i x p
      rw [Bool.and_eq_true] at h
      obtain ⟨h1, h2⟩ := h
      obtain ⟨l1, l2⟩ := lo x h2
      exact pg_name (by rw [hN]; exact nd) (by rw [hN]; exact of_decide_eq_true h1) l1 l2
    · cases h
  | .tup ts, e, h => by
    unfold chkTn at h
    split at h
    · rename_i es k p
      exact pg_un hc (sndTns hN nd hc lo ts es h) (chkTns_star h X.env).1 (chkTns_star h X.env).2
    · cases h
theorem sndTns (hN : X.N = C.N) (nd : C.N.Nodup) (hc : X.calm = true) {ss : Scope} (lo : LocOk X ss) : ∀ (ts : TnL) (es : List Expr), chkTns C.N ss ts es = true → PGs X es (gsOf X.K ts)
  | .nil, es, h => by
    unfold chkTns at h
    cases es with
    | nil => exact pgs_nil
    | cons _ _ => cases h
  | .cons t ts, [], h => by cases h
  | .cons t ts, e :: es, h => by
    unfold chkTns at h
    simp only [Bool.and_eq_true] at h
    obtain ⟨⟨h1, h2⟩, h3⟩ := h
    exact pgs_cons (sndTn hN nd hc lo t e h2) (sndTns hN nd hc lo ts es h3) (by rw [assignEach1 h1]; rfl)
end
theorem chkEL_star : ∀ {es : EL} {xs : List Expr}, chkEL C sc es xs = true → xs.all nStar = true
  | .nil, xs, h => by
    unfold chkEL at h
    cases xs with
    | nil => rfl
    | cons _ _ => cases h
  | .cons e es, [], h => rfl
  | .cons e es, x :: xs, h => by
    unfold chkEL at h
    simp only [Bool.and_eq_true] at h
    rw [List.all_cons, h.1.1, chkEL_star h.2]; rfl
end
end G3
set_option Elab.async false
set_option linter.all false
set_option maxRecDepth 100000
set_option maxHeartbeats 16000000
namespace G3
open PySem PySem.Spec PyProof.Rows L2
theorem boot_fn : ∀ (b : Bi) (id : String), b.k = .fn id → bootBuiltins b.nm = some (.builtin id)
  | .len, _, h => by cases h; decide +kernel
  | .abs, _, h => by cases h; decide +kernel
  | .max1, _, h => by cases h; decide +kernel
  | .max2, _, h => by cases h; decide +kernel
  | .min1, _, h => by cases h; decide +kernel
  | .min2, _, h => by cases h; decide +kernel
  | .sum, _, h => by cases h; decide +kernel
  | .sorted, _, h => by cases h; decide +kernel
  | .sortedP, _, h => by cases h; decide +kernel
  | .all, _, h => by cases h; decide +kernel
  | .any, _, h => by cases h; decide +kernel
  | .int, _, h | .list, _, h | .tuple, _, h | .gcd, _, h | .lcm, _, h | .isi _, _, h => by cases h
theorem boot_ty : ∀ (b : Bi) (id : String), b.k = .ty id → bootBuiltins b.nm = some (.type id)
  | .int, _, h => by cases h; decide +kernel
  | .list, _, h => by cases h; decide +kernel
  | .tuple, _, h => by cases h; decide +kernel
  | .len, _, h | .abs, _, h | .max1, _, h | .max2, _, h | .min1, _, h | .min2, _, h | .sum, _, h | .sorted, _, h | .sortedP, _, h | .all, _, h | .any, _, h | .gcd, _, h | .lcm, _, h | .isi _, _, h => by cases h
theorem bi_name : ∀ b : Bi, b.nm ≠ "__name__" ∧ (b.nm == ("__debug__" : Str)) = false
  | .len | .abs | .int | .max1 | .max2 | .min1 | .min2 | .sum | .sorted | .sortedP | .list | .tuple | .all | .any | .gcd | .lcm => by decide +kernel
  | .isi _ => (by decide +kernel : (Str.ofString "isinstance") ≠ "__name__" ∧ (Str.ofString "isinstance" == ("__debug__" : Str)) = false)
theorem boot_is : bootBuiltins "isinstance" = some (.builtin "isinstance") := by decide +kernel
theorem boot_ask : ∀ t ∈ askTy, bootBuiltins (Str.ofString t) = some (.type t) ∧ Str.ofString t ≠ "__name__" ∧ (Str.ofString t == ("__debug__" : Str)) = false := by decide +kernel
section
variable {X : Cx} {C : Ck} {sc : Scope}
theorem bi_fn (cx : Cq X C sc) : ∀ (b : Bi) (id : String), b.k = .fn id → CallR X (.builtin id) (liftC X.K (bi3 b))
  | .len, _, h => by cases h; exact len_ok
  | .abs, _, h => by cases h; exact abs_ok
  | .max1, _, h => by cases h; exact max1_ok cx.calm
  | .max2, _, h => by cases h; exact max2_ok cx.calm
  | .min1, _, h => by cases h; exact min1_ok cx.calm
  | .min2, _, h => by cases h; exact min2_ok cx.calm
  | .sum, _, h => by cases h; exact sum_ok cx.calm
  | .sorted, _, h => by cases h; exact sorted_ok
  | .sortedP, _, h => by cases h; exact sortedP_ok
  | .all, _, h => by cases h; exact all_ok cx.calm
  | .any, _, h => by cases h; exact any_ok cx.calm
  | .int, _, h | .list, _, h | .tuple, _, h | .gcd, _, h | .lcm, _, h | .isi _, _, h => by cases h
theorem bi_ty (cx : Cq X C sc) : ∀ (b : Bi) (id : String), b.k = .ty id → CallR X (.type id) (liftC X.K (bi3 b))
  | .int, _, h => by cases h; exact int_ok
  | .list, _, h => by cases h; exact list_ok cx.calm
  | .tuple, _, h => by cases h; exact tuple_ok
  | .len, _, h | .abs, _, h | .max1, _, h | .max2, _, h | .min1, _, h | .min2, _, h | .sum, _, h | .sorted, _, h | .sortedP, _, h | .all, _, h | .any, _, h | .gcd, _, h | .lcm, _, h | .isi _, _, h => by cases h
theorem bi_im (cx : Cq X C sc) : ∀ (b : Bi) (id : String), b.k = .im id → CallR X (.builtin id) (liftC X.K (bi3 b))
  | .gcd, _, h => by cases h; exact gcd_ok
  | .lcm, _, h => by cases h; exact lcm_ok
  | .len, _, h | .abs, _, h | .max1, _, h | .max2, _, h | .min1, _, h | .min2, _, h | .sum, _, h | .sorted, _, h | .sortedP, _, h | .all, _, h | .any, _, h | .int, _, h | .list, _, h | .tuple, _, h | .isi _, _, h => by cases h
theorem Me.slot : ∀ m : Me, PlainAttrs m.ty ∧ PySem.Slot m.ty m.nm m.id ∧ typeOf (.builtin m.id) = pure (.type "method_descriptor")
  | .append => ⟨PySem.F.plainAttrs_list, PySem.F.slot_list_append, PySem.F.type_list_append⟩
  | .extend => ⟨PySem.F.plainAttrs_list, PySem.F.slot_list_extend, PySem.F.type_list_extend⟩
  | .pop => ⟨PySem.F.plainAttrs_list, PySem.F.slot_list_pop, PySem.F.type_list_pop⟩
  | .popAt => ⟨PySem.F.plainAttrs_list, PySem.F.slot_list_pop, PySem.F.type_list_pop⟩
  | .reverse => ⟨PySem.F.plainAttrs_list, PySem.F.slot_list_reverse, PySem.F.type_list_reverse⟩
  | .insert => ⟨PySem.F.plainAttrs_list, PySem.F.slot_list_insert, PySem.F.type_list_insert⟩
  | .index => ⟨PySem.F.plainAttrs_list, PySem.F.slot_list_index, PySem.F.type_list_index⟩
  | .get1 => ⟨PySem.F.plainAttrs_dict, PySem.F.slot_dict_get, PySem.F.type_dict_get⟩
  | .get2 => ⟨PySem.F.plainAttrs_dict, PySem.F.slot_dict_get, PySem.F.type_dict_get⟩
theorem chkC_ok {d : D} {k : Const} {n : Nat} {pos : Pos} (h : chkC d k = true) : PE X (.Constant k n pos) (lift X.K fun τ M Q => Q d M) := by
  unfold chkC at h
  split at h
  · exact PEw pe_non fun σ H Q ⟨τ, M, Q3, hr, sl, h, L⟩ => L.here hr .non h
  · rename_i b b'
    have e : b = b' := beq_iff_eq.mp h
    subst e
    exact PEw pe_bl fun σ H Q ⟨τ, M, Q3, hr, sl, h, L⟩ => L.here hr (.bl b) h
  · rename_i b b'
    have e : b = b' := beq_iff_eq.mp h
    subst e
    exact PEw pe_int fun σ H Q ⟨τ, M, Q3, hr, sl, h, L⟩ => L.here hr (.int b) h
  · rename_i b b'
    have e : b = b' := eq_of_beq h
    subst e
    exact PEw pe_str fun σ H Q ⟨τ, M, Q3, hr, sl, h, L⟩ => L.here hr (.str b) h
  · cases h
theorem le_var {i : Nat} {x : Str} {pos : Pos} (hN : X.N[i]? = some x) (hv : Vis X.env.scope x) (hd : (x == ("__debug__" : Str)) = false) (hcd : (x == ("__classdict__" : Str)) = false) :
    PE X (.Name x pos) (lift X.K fun τ M Q => some3 τ[i]? fun o => some3 o fun d => Q d M) := PEw (pe_var hN hv hd hcd) fun σ H Q ⟨τ, M, Q3, hr, sl, h, L⟩ => by
  obtain ⟨o, e1, h⟩ := some3_inv h
  obtain ⟨d, rfl, h⟩ := some3_inv h
  obtain ⟨v, ev, rv⟩ := sl.get e1
  exact ⟨v, ev, L.here hr rv h⟩
theorem rgV_ok {K : PySem.W.Frag} {H : Hp} : ∀ (n : Nat), Reps K H (rgV 0 (n : Int)) (rgD 0 1 n) := by
  intro n
  unfold rgV rgD
  rw [show ((n : Int) - 0).toNat = n by omega]
  generalize List.range n = l
  induction l with
  | nil => exact .nil
  | cons k l ih =>
    rw [List.map_cons, List.map_cons]
    refine .cons ?_ ih
    rw [Int.mul_one]
    exact .int _
theorem le_lrg {a : Expr} {ta : TE3} {p p' p'' pos : Pos} (hc : X.calm = true) (hg : Gl X "list") (hm : X.mg "list" = none) (hg' : Gl X "range") (hm' : X.mg "range" = none) (ha : PE X a (lift X.K ta)) (na : starEach [a] X.env = (false, eval a X.env) :: starEach [] X.env) :
    PE X (.Call (.Name "list" p) [.Call (.Name "range" p') [a] [] p''] [] pos) (lift X.K fun τ M Q => ta τ M fun d M1 => isI d fun i => i ≤ 16777216 ∧ -16777216 ≤ i ∧ newL (rgD 0 1 i.toNat) M1 Q) :=
  PEw (pe_listRg hc hg hm (prg_1 hg' hm' ha na)) fun σ H Q ⟨τ, M, Q3, hr, sl, h, L⟩ => by
    refine ⟨τ, M, _, hr, sl, h, fun v H1 d M1 h1 g1 hr1 r1 => ?_⟩
    obtain ⟨i, rfl, h2, h3, h4⟩ := isI_inv h1
    cases r1
    refine ⟨i, rfl, ⟨by omega, by omega, by omega, by omega, by omega⟩, ?_⟩
    have e : rgV 0 i = rgV 0 (i.toNat : Int) := by
      unfold rgV
      rw [show (i - 0).toNat = ((i.toNat : Int) - 0).toNat by omega]
    rw [e]
    exact newL_ok hr1 (rgV_ok _) h4 (L.from g1)
theorem le_isi2 {t t' : String} {x y y' : Str} {p p1 p2 p3 pos : Pos} {k : Nat} {a : Expr} {ta : TE3} (ht : t ∈ askTy) (ht' : t' ∈ askTy) (hx : x = Str.ofString "isinstance") (hy : y = Str.ofString t) (hy' : y' = Str.ofString t') (ha : PE X a (lift X.K ta)) (hg : Gl X x) (hm : X.mg x = none) (hgy : Gl X y) (hmy : X.mg y = none) (hgy' : Gl X y') (hmy' : X.mg y' = none)
    (hv : bootBuiltins x = some (.builtin "isinstance")) (hvy : bootBuiltins y = some (.type t)) (hvy' : bootBuiltins y' = some (.type t')) (hn : x ≠ "__name__") (hdb : (x == ("__debug__" : Str)) = false) (hny : y ≠ "__name__") (hdby : (y == ("__debug__" : Str)) = false) (hny' : y' ≠ "__name__") (hdby' : (y' == ("__debug__" : Str)) = false)
    (he : starEach [a, .Tuple [.Name y p1, .Name y' p2] k p3] X.env = (false, eval a X.env) :: starEach [.Tuple [.Name y p1, .Name y' p2] k p3] X.env) :
    PE X (.Call (.Name x p) [a, .Tuple [.Name y p1, .Name y' p2] k p3] [] pos) (lift X.K fun τ M Q => ta τ M fun d M1 => some3 (tyName d M1) fun z => Q (.bl ([t, t'].any fun T => isTy z T)) M1) := by
  have n1 : PE X (.Name y p1) (tC (.ty t)) := pe_bltn hgy hmy hvy rfl hny hdby
  have n2 : PE X (.Name y' p2) (tC (.ty t')) := pe_bltn hgy' hmy' hvy' rfl hny' hdby'
  refine PEw (pe_callB call_isiT hg hm hv (pa_cons ha (pa_cons (pe_tup (pa_cons n1 (pa_cons n2 pa_nil))) pa_nil) he) hn hdb he rfl) fun σ H Q ⟨τ, M, Q3, hr, sl, h, L⟩ => ?_
  refine ⟨τ, M, _, hr, sl, h, fun v H1 d M1 h1 g1 hr1 r1 => ?_⟩
  obtain ⟨z, ez, q⟩ := some3_inv h1
  refine ⟨by show 2 ≤ sizeLine; decide, fun T nT => ?_⟩
  have g2 : Grow X.K H1 (upd H1 T (.tup [.ty t, .ty t'])) := .new nT
  have hr2 := hr1.upd g2 (hr1.none nT)
  refine ⟨v, T, [.ty t, .ty t'], .type z, [.type t, .type t'], [t, t'].any fun T => isTy z T, rfl, upd_same, .cons (.ty _) (.cons (.ty _) .nil), tyX_ok hr2 (Rep.mono g2 d r1) ez, ?_, L _ _ _ _ q (g1.trans g2) hr2 (.bl _)⟩
  refine kitAny_ok (ts := [t, t']) (tyName_in ez) fun T hT => ?_
  rcases List.mem_cons.mp hT with rfl | hT
  · exact ht
  · rcases List.mem_cons.mp hT with rfl | hT
    · exact ht'
    · cases hT
theorem le_dic0 {pos : Pos} : PE X (.Dict [] [] pos) (lift X.K fun τ M Q => ∀ p, M p = none → Q (.ref p) (put M p (.dic []))) := PEw pe_dnewK fun σ H Q ⟨τ, M, Q3, hr, sl, h, L⟩ p np =>
  L _ _ _ _ (h p (hr.none np)) (.new np) (hr.put (.new np) ⟨_, upd_same, .nil⟩) (.ref p)
theorem le_one {op : BoolOp} {a : Expr} {ta : TE3} {pos : Pos} (ha : PE X a (lift X.K ta)) : PE X (.BoolOp op [a] pos) (lift X.K ta) := pe_one ha
/-- the context within a comprehension -/
theorem Cq.blk (cx : Cq X C sc) {scope : Scope} (hk : scope.kind = .function) (s : Shared) (H : Hp) (Cc : Addr) (cl : List (Str × Addr)) (fp : List Addr) : Cq (X.blk s H scope (compEnvC scope cl Cc X.env) fp) C (relB scope sc) :=
  ⟨cx.n, by rw [← cx.hs]; rfl, cx.nd, cx.calm, cx.hu, cx.bl, cx.im, cx.cn, hk, rfl⟩
theorem loc_blk (cx : Cq X C sc) {scope : Scope} (s : Shared) (H : Hp) (Cc : Addr) (cl : List (Str × Addr)) (fp : List Addr) : LocOk (X.blk s H scope (compEnvC scope cl Cc X.env) fp) scope := by
  intro x h
  have e : (X.blk s H scope (compEnvC scope cl Cc X.env) fp).env.scope = relB scope sc := by rw [← cx.hs]; rfl
  unfold locB at h
  split at h
  · rename_i hl
    have q := lookup_rel (sc := sc) (by decide) hl
    exact ⟨.inl (by rw [e]; exact q), .inr (by rw [e]; exact q)⟩
  · rename_i hl
    have q := lookup_rel (sc := sc) (by decide) hl
    refine ⟨.inr (by rw [e]; exact q), .inl ?_⟩
    show (scope.names.lookup x == some .cell) = true
    rw [hl]; rfl
  · cases h
theorem Good.blk {x : String} {sp : Sp3} {scope : Scope} {s : Shared} {H : Hp} {env : Env} {fp : List Addr} (g : Good X x sp) : Good (X.blk s H scope env fp) x sp := g
end
end G3
set_option Elab.async false
set_option linter.all false
set_option maxRecDepth 100000
set_option maxHeartbeats 16000000
namespace G3
open PySem PySem.Spec PyProof.Rows L2
mutual
theorem sndE {C : Ck} : ∀ (q : E) {X : Cx} {sc : Scope} (e : Expr), Cq X C sc → chkE C sc q e = true → GoodAll X (callsE q) → PE X e (lift X.K (wpE q))
  | .v i, X, sc, e, cx, h, g => by
    unfold chkE at h
    split at h
    · simp only [Bool.and_eq_true, decide_eq_true_eq] at h
      obtain ⟨⟨h1, h2⟩, h3⟩ := h
      obtain ⟨o1, o2, o3⟩ := okName_ok h3
      exact le_var (by rw [cx.n]; exact h1) (cx.vis h2) o1 o2
    · cases h
  | .c d, X, sc, e, cx, h, g => by
    unfold chkE at h
    split at h
    · exact chkC_ok h
    · cases h
  | .tup es, X, sc, e, cx, h, g => by
    unfold chkE at h
    split at h
    · rename_i xs k p
      simp only [Bool.and_eq_true, decide_eq_true_eq] at h
      exact le_tup (sndEL es xs cx h.1 g) (Nat.le_trans h.2 (by decide))
    · cases h
  | .ktup es, X, sc, e, cx, h, g => by
    unfold chkE at h
    split at h
    · rename_i xs k p
      simp only [Bool.and_eq_true, decide_eq_true_eq] at h
      exact le_ktup (sndEL es xs cx h.1 g) (Nat.le_trans h.2 (by decide))
    · cases h
  | .lst es, X, sc, e, cx, h, g => by
    unfold chkE at h
    split at h
    · rename_i xs p
      simp only [Bool.and_eq_true, decide_eq_true_eq] at h
      exact le_lst (sndEL es xs cx h.1 g) (Nat.le_trans h.2 (by decide))
    · cases h
  | .bin o a b, X, sc, e, cx, h, g => by
    unfold chkE at h
    split at h
    · simp only [Bool.and_eq_true, decide_eq_true_eq] at h
      obtain ⟨⟨h1, h2⟩, h3⟩ := h
      subst h1
      exact le_bin (bin_ok o) (sndE a _ cx h2 g.l) (sndE b _ cx h3 g.r)
    · cases h
  | .neg a, X, sc, e, cx, h, g => by
    unfold chkE at h
    split at h
    · exact le_un (r := neg3) neg_ok (sndE a _ cx h g)
    · cases h
  | .cmp o a b, X, sc, e, cx, h, g => by
    unfold chkE at h
    split at h
    · simp only [Bool.and_eq_true, decide_eq_true_eq] at h
      obtain ⟨⟨⟨h1, h2⟩, h3⟩, h4⟩ := h
      subst h1
      exact le_cmp (cmp_ok cx.hu o) (sndE a _ cx h2 g.l) (sndE b _ cx h3 g.r) (mark_ok h4)
    · cases h
  | .chain o o' a b c, X, sc, e, cx, h, g => by
    unfold chkE at h
    split at h
    · simp only [Bool.and_eq_true, decide_eq_true_eq] at h
      obtain ⟨⟨⟨⟨⟨h1, h2⟩, h3⟩, h4⟩, h5⟩, h6⟩ := h
      subst h1 h2
      exact le_chain (cmp_ok cx.hu o) (cmp_ok cx.hu o') (sndE a _ cx h3 g.l) (sndE b _ cx h4 g.r.l) (sndE c _ cx h5 g.r.r) (mark_ok h6)
    · cases h
  | .and es, X, sc, e, cx, h, g => by
    unfold chkE at h
    split at h
    · rename_i xs p
      simp only [Bool.and_eq_true, Bool.not_eq_true'] at h
      exact sndAnd es xs p cx h.1 h.2 g
    · cases h
  | .or es, X, sc, e, cx, h, g => by
    unfold chkE at h
    split at h
    · rename_i xs p
      simp only [Bool.and_eq_true, Bool.not_eq_true'] at h
      exact sndOr es xs p cx h.1 h.2 g
    · cases h
  | .not a, X, sc, e, cx, h, g => by
    unfold chkE at h
    split at h
    · exact le_not (sndE a _ cx h g)
    · cases h
  | .ite t a b, X, sc, e, cx, h, g => by
    unfold chkE at h
    split at h
    · simp only [Bool.and_eq_true] at h
      obtain ⟨⟨h1, h2⟩, h3⟩ := h
      exact le_ite (sndT t _ cx h1 g.l) (sndE a _ cx h2 g.r.l) (sndE b _ cx h3 g.r.r)
    · cases h
  | .ix a b, X, sc, e, cx, h, g => by
    unfold chkE at h
    split at h
    · simp only [Bool.and_eq_true] at h
      obtain ⟨⟨h1, h2⟩, h3⟩ := h
      exact le_ix cx.hu (sndE a _ cx h1 g.l) (sndE b _ cx h2 g.r) (plain_ix h3)
    · cases h
  | .sl a lo hi, X, sc, e, cx, h, g => by
    unfold chkE at h
    split at h
    · simp only [Bool.and_eq_true] at h
      obtain ⟨⟨h1, h2⟩, h3⟩ := h
      exact le_sl (sndE a _ cx h1 g.l) (sndO lo _ cx h2 g.r.l) (sndO hi _ cx h3 g.r.r)
    · cases h
  | .rev a, X, sc, e, cx, h, g => by
    unfold chkE at h
    split at h
    · exact le_rev (sndE a _ cx h g)
    · cases h
  | .call f sp es, X, sc, e, cx, h, g => by
    unfold chkE at h
    split at h
    · rename_i x p xs pos
      simp only [Bool.and_eq_true, decide_eq_true_eq] at h
      obtain ⟨⟨⟨h1, h2⟩, h3⟩, h4⟩ := h
      subst h1
      obtain ⟨o1, o2, o3⟩ := okName_ok h3
      have st := chkEL_star h4
      cases xs with
      | nil =>
        cases es with
        | nil => exact le_call0 g.hd (cx.gl h2) o1
        | cons _ _ => unfold chkEL at h4; cases h4
      | cons y ys =>
        rw [List.all_cons, Bool.and_eq_true] at st
        exact le_call g.hd (cx.gl h2) (sndEL es (y :: ys) cx h4 g.tl) o1 (star1 st.1) (starAny st.2)
    · cases h
  | .bi b es, X, sc, e, cx, h, g => by
    unfold chkE at h
    split at h
    · rename_i x p xs pos
      simp only [Bool.and_eq_true, decide_eq_true_eq, Bool.not_eq_true'] at h
      obtain ⟨⟨⟨⟨h1, h2⟩, h3⟩, h4⟩, h5⟩ := h
      subst h1
      have st := chkEL_star h3
      obtain ⟨o1, o2⟩ := bi_name b
      cases xs with
      | nil => cases h4
      | cons y ys =>
        rw [List.all_cons, Bool.and_eq_true] at st
        have A := sndEL es (y :: ys) cx h3 g
        split at h5
        · rename_i id hk
          exact le_bi (bi_fn cx b id hk) (cx.gl h2) (cx.bl _ (List.contains_iff_mem.mp h5)) (boot_fn b id hk) A o1 o2 (star1 st.1) (starAny st.2)
        · rename_i id hk
          exact le_biT (bi_ty cx b id hk) (cx.gl h2) (cx.bl _ (List.contains_iff_mem.mp h5)) (boot_ty b id hk) A o1 o2 (star1 st.1) (starAny st.2)
        · rename_i id hk
          exact le_biF (bi_im cx b id hk) (cx.gl h2) (cx.im _ (List.contains_iff_mem.mp h5)) A o2 (star1 st.1) (starAny st.2)
        · cases h5
    · cases h
  | .isi a ts, X, sc, e, cx, h, g => by
    unfold chkE at h
    split at h
    · rename_i x p y z p1 pos
      simp only [Bool.and_eq_true, decide_eq_true_eq] at h
      obtain ⟨⟨⟨⟨⟨h1, h2⟩, h3⟩, h4⟩, h5⟩, h6⟩ := h
      subst h1
      split at h6
      · rename_i t
        simp only [Bool.and_eq_true, decide_eq_true_eq] at h6
        obtain ⟨⟨⟨k1, k2⟩, k3⟩, k4⟩ := h6
        obtain ⟨b1, b2, b3⟩ := boot_ask t (List.contains_iff_mem.mp k2)
        subst k1
        exact le_isi1 (List.contains_iff_mem.mp k2) rfl rfl (sndE a _ cx h4 g) (cx.gl h2) (cx.bl _ (List.contains_iff_mem.mp h3)) (cx.gl k3) (cx.bl _ (List.contains_iff_mem.mp k4)) boot_is b1 (by decide) (by decide) b2 b3 (star1 h5)
      · cases h6
    · rename_i x p y z p1 z' p2 k p3 pos
      simp only [Bool.and_eq_true, decide_eq_true_eq] at h
      obtain ⟨⟨⟨⟨⟨h1, h2⟩, h3⟩, h4⟩, h5⟩, h6⟩ := h
      subst h1
      split at h6
      · rename_i t t'
        simp only [Bool.and_eq_true, decide_eq_true_eq] at h6
        obtain ⟨⟨⟨⟨⟨⟨⟨k1, k2⟩, k3⟩, k4⟩, k5⟩, k6⟩, k7⟩, k8⟩ := h6
        obtain ⟨b1, b2, b3⟩ := boot_ask t (List.contains_iff_mem.mp k2)
        obtain ⟨c1, c2, c3⟩ := boot_ask t' (List.contains_iff_mem.mp k6)
        subst k1 k5
        exact le_isi2 (List.contains_iff_mem.mp k2) (List.contains_iff_mem.mp k6) rfl rfl rfl (sndE a _ cx h4 g) (cx.gl h2) (cx.bl _ (List.contains_iff_mem.mp h3)) (cx.gl k3) (cx.bl _ (List.contains_iff_mem.mp k4)) (cx.gl k7) (cx.bl _ (List.contains_iff_mem.mp k8)) boot_is b1 c1 (by decide) (by decide) b2 b3 c2 c3 (star1 h5)
      · cases h6
    · cases h
  | .lrg a, X, sc, e, cx, h, g => by
    unfold chkE at h
    split at h
    · simp only [Bool.and_eq_true, decide_eq_true_eq] at h
      obtain ⟨⟨⟨⟨⟨⟨⟨h1, h2⟩, h3⟩, h4⟩, h5⟩, h6⟩, h7⟩, h8⟩ := h
      subst h1 h4
      exact le_lrg cx.calm (cx.gl h2) (cx.bl _ (List.contains_iff_mem.mp h3)) (cx.gl h5) (cx.bl _ (List.contains_iff_mem.mp h6)) (sndE a _ cx h7 g) (star1 h8)
    · cases h
  | .me m o es, X, sc, e, cx, h, g => by
    unfold chkE at h
    split at h
    · rename_i x nm ap xs p
      simp only [Bool.and_eq_true, decide_eq_true_eq] at h
      obtain ⟨⟨⟨⟨⟨h1, h2⟩, h3⟩, h4⟩, h5⟩, h6⟩ := h
      subst h1
      have st := chkEL_star h3
      obtain ⟨s1, s2, s3⟩ := m.slot
      cases xs with
      | nil =>
        cases es with
        | nil => exact le_me0 s1 s2 s3 (me_ok cx.hu m) (sndE o _ cx h2 g.l) (base_ok h4) h5
        | cons _ _ => unfold chkEL at h3; cases h3
      | cons y ys =>
        have st2 := st
        rw [List.all_cons, Bool.and_eq_true] at st
        exact le_me s1 s2 s3 (me_ok cx.hu m) (sndE o _ cx h2 g.l) (sndEL es (y :: ys) cx h3 g.r) (base_ok h4) (few_ok st2 h6) h5 (star1 st.1) (starAny st.2)
    · cases h
  | .lc own tn it t b, X, sc, e, cx, h, g => by
    unfold chkE at h
    split at h
    · rename_i elt tg iter ifs scope pos
      simp only [Bool.and_eq_true] at h
      obtain ⟨⟨⟨⟨⟨⟨⟨h1, h2⟩, h3⟩, h4⟩, h5⟩, h6⟩, h7⟩, h8⟩ := h
      have ok : BlkOk X.N X.env.scope scope (strN own) := by rw [cx.n, cx.hs]; exact blkOk_by h1
      have hw : (strN own).map (·.2) = own.map (·.2) := by unfold strN; rw [List.map_map]; rfl
      have R := le_lc (own := strN own) (pos := pos) cx.calm (by rw [cx.n]; exact cx.nd) (sndI it tg iter cx h4 h6 g.l) ok
        (fun s H Cc cl fp => sndTn (cx.blk ok.kind s H Cc cl fp).n cx.nd cx.calm (loc_blk cx s H Cc cl fp) tn tg h2)
        (fun s H Cc cl fp => sndTO t ifs (cx.blk ok.kind s H Cc cl fp) h7 g.r.l)
        (fun s H Cc cl fp => sndE b elt (cx.blk ok.kind s H Cc cl fp) h8 g.r.r) (fold_ok h5) (by rw [hw]; exact h3)
      rw [hw] at R
      exact R
    · cases h
  | .lc2 own tn it vs1 tn1 it1 b, X, sc, e, cx, h, g => by
    unfold chkE at h
    split at h
    · rename_i elt tg iter tg1 iter1 scope pos
      simp only [Bool.and_eq_true] at h
      obtain ⟨⟨⟨⟨⟨⟨⟨⟨⟨⟨⟨⟨h1, h2⟩, h3⟩, h4⟩, h5⟩, h6⟩, k1⟩, k2⟩, k3⟩, k4⟩, k5⟩, k6⟩, k7⟩ := h
      have ok : BlkOk X.N X.env.scope scope (strN own) := by rw [cx.n, cx.hs]; exact blkOk_by h1
      have hw : (strN own).map (·.2) = own.map (·.2) := by unfold strN; rw [List.map_map]; rfl
      have R := le_lc2 (own := strN own) (vs1 := vs1) (pos := pos) cx.calm (by rw [cx.n]; exact cx.nd) (sndI it tg iter cx h4 h6 g.l) ok
        (fun i hi => by rw [hw]; exact List.contains_iff_mem.mp (List.all_eq_true.mp k6 i hi))
        (fun s H Cc cl fp => sndTn (cx.blk ok.kind s H Cc cl fp).n cx.nd cx.calm (loc_blk cx s H Cc cl fp) tn tg h2)
        (fun s H Cc cl fp => sndI it1 tg1 iter1 (cx.blk ok.kind s H Cc cl fp) k3 k5 g.r.l)
        (fun s H Cc cl fp => sndTn (cx.blk ok.kind s H Cc cl fp).n cx.nd cx.calm (loc_blk cx s H Cc cl fp) tn1 tg1 k1)
        (fun s H Cc cl fp => sndE b elt (cx.blk ok.kind s H Cc cl fp) k7 g.r.r) (fold_ok h5) (fun env => fold_ok k4) (by rw [hw]; exact h3) k2
      rw [hw] at R
      exact R
    · cases h
  | .dc own tn it t k b, X, sc, e, cx, h, g => by
    unfold chkE at h
    split at h
    · rename_i kx vx tg iter ifs scope pos
      simp only [Bool.and_eq_true] at h
      obtain ⟨⟨⟨⟨⟨⟨⟨⟨h1, h2⟩, h3⟩, h4⟩, h5⟩, h6⟩, h7⟩, h8⟩, h9⟩ := h
      have ok : BlkOk X.N X.env.scope scope (strN own) := by rw [cx.n, cx.hs]; exact blkOk_by h1
      have hw : (strN own).map (·.2) = own.map (·.2) := by unfold strN; rw [List.map_map]; rfl
      have R := le_dc (own := strN own) (pos := pos) cx.calm (by rw [cx.n]; exact cx.nd) (sndI it tg iter cx h4 h6 g.l) ok
        (fun s H Cc cl fp => sndTn (cx.blk ok.kind s H Cc cl fp).n cx.nd cx.calm (loc_blk cx s H Cc cl fp) tn tg h2)
        (fun s H Cc cl fp => sndTO t ifs (cx.blk ok.kind s H Cc cl fp) h7 g.r.l)
        (fun s H Cc cl fp => sndE k kx (cx.blk ok.kind s H Cc cl fp) h8 g.r.r.l)
        (fun s H Cc cl fp => sndE b vx (cx.blk ok.kind s H Cc cl fp) h9 g.r.r.r) (fold_ok h5) (by rw [hw]; exact h3)
      rw [hw] at R
      exact R
    · cases h
  | .dct own tn it t k b, X, sc, e, cx, h, g => by
    unfold chkE at h
    split at h
    · rename_i kx vx tg iter ifs scope pos
      simp only [Bool.and_eq_true] at h
      obtain ⟨⟨⟨⟨⟨⟨⟨⟨h1, h2⟩, h3⟩, h4⟩, h5⟩, h6⟩, h7⟩, h8⟩, h9⟩ := h
      have ok : BlkOk X.N X.env.scope scope (strN own) := by rw [cx.n, cx.hs]; exact blkOk_by h1
      have hw : (strN own).map (·.2) = own.map (·.2) := by unfold strN; rw [List.map_map]; rfl
      have R := le_dct (own := strN own) (pos := pos) cx.hu cx.calm (by rw [cx.n]; exact cx.nd) (sndI it tg iter cx h4 h6 g.l) ok
        (fun s H Cc cl fp => sndTn (cx.blk ok.kind s H Cc cl fp).n cx.nd cx.calm (loc_blk cx s H Cc cl fp) tn tg h2)
        (fun s H Cc cl fp => sndTO t ifs (cx.blk ok.kind s H Cc cl fp) h7 g.r.l)
        (fun s H Cc cl fp => sndE k kx (cx.blk ok.kind s H Cc cl fp) h8 g.r.r.l)
        (fun s H Cc cl fp => sndE b vx (cx.blk ok.kind s H Cc cl fp) h9 g.r.r.r) (fold_ok h5) (by rw [hw]; exact h3)
      rw [hw] at R
      exact R
    · cases h
  | .dic0, X, sc, e, cx, h, g => by
    unfold chkE at h
    split at h
    · exact le_dic0
    · cases h
  | .g x v, X, sc, e, cx, h, g => by
    unfold chkE at h
    split at h
    · simp only [Bool.and_eq_true, decide_eq_true_eq] at h
      obtain ⟨⟨⟨h1, h2⟩, h3⟩, h4⟩ := h
      obtain ⟨o1, o2, o3⟩ := okName_ok h3
      obtain ⟨w, u, e1, r1, r2⟩ := cx.cn _ (List.contains_iff_mem.mp h4)
      exact PEw (pe_glob (cx.gl h2) e1 r1 o1) fun σ H Q ⟨τ, M, Q3, hr, sl, h, L⟩ => L.here hr (r2 H) h
    · cases h
theorem sndEL {C : Ck} : ∀ (q : EL) {X : Cx} {sc : Scope} (xs : List Expr), Cq X C sc → chkEL C sc q xs = true → GoodAll X (callsEL q) → PA X xs (liftA X.K xs.length (wpEL q))
  | .nil, X, sc, xs, cx, h, g => by
    unfold chkEL at h
    cases xs with
    | nil => exact la_nil
    | cons _ _ => cases h
  | .cons e es, X, sc, [], cx, h, g => by cases h
  | .cons e es, X, sc, x :: xs, cx, h, g => by
    unfold chkEL at h
    simp only [Bool.and_eq_true] at h
    obtain ⟨⟨h1, h2⟩, h3⟩ := h
    exact la_cons (sndE e x cx h2 g.l) (sndEL es xs cx h3 g.r) (star1 h1)
theorem sndO {C : Ck} : ∀ (q : EO) {X : Cx} {sc : Scope} (o : Option Expr), Cq X C sc → chkO C sc q o = true → GoodAll X (callsO q) → PO X o (liftO X.K (wpO q))
  | .no, X, sc, o, cx, h, g => by
    unfold chkO at h
    cases o with
    | none => exact lo_none
    | some _ => cases h
  | .ex e, X, sc, o, cx, h, g => by
    unfold chkO at h
    split at h
    · exact lo_some (sndE e _ cx h g)
    · cases h
theorem sndTO {C : Ck} : ∀ (q : EO) {X : Cx} {sc : Scope} (l : List Expr), Cq X C sc → chkTO C sc q l = true → GoodAll X (callsO q) → PTs X l (liftT X.K (wpTO q))
  | .no, X, sc, l, cx, h, g => by
    unfold chkTO at h
    cases l with
    | nil => exact lts_nil
    | cons _ _ => cases h
  | .ex e, X, sc, l, cx, h, g => by
    unfold chkTO at h
    split at h
    · exact pts_one (sndT e _ cx h g)
    · cases h
theorem sndAnd {C : Ck} : ∀ (q : EL) {X : Cx} {sc : Scope} (xs : List Expr) (pos : Pos), Cq X C sc → chkEL C sc q xs = true → xs.isEmpty = false → GoodAll X (callsEL q) → PE X (.BoolOp .And xs pos) (lift X.K (wpAnd q))
  | .nil, X, sc, xs, pos, cx, h, ne, g => by
    unfold chkEL at h
    cases xs with
    | nil => cases ne
    | cons _ _ => cases h
  | .cons e es, X, sc, [], pos, cx, h, ne, g => by cases h
  | .cons e es, X, sc, x :: xs, pos, cx, h, ne, g => by
    unfold chkEL at h
    simp only [Bool.and_eq_true] at h
    obtain ⟨⟨h1, h2⟩, h3⟩ := h
    cases es with
    | nil =>
      unfold chkEL at h3
      cases xs with
      | nil => exact le_one (sndE e x cx h2 g.l)
      | cons _ _ => cases h3
    | cons e' es' =>
      cases xs with
      | nil => unfold chkEL at h3; cases h3
      | cons y ys => exact le_and (sndE e x cx h2 g.l) (sndAnd (.cons e' es') (y :: ys) pos cx h3 rfl g.r)
theorem sndOr {C : Ck} : ∀ (q : EL) {X : Cx} {sc : Scope} (xs : List Expr) (pos : Pos), Cq X C sc → chkEL C sc q xs = true → xs.isEmpty = false → GoodAll X (callsEL q) → PE X (.BoolOp .Or xs pos) (lift X.K (wpOr q))
  | .nil, X, sc, xs, pos, cx, h, ne, g => by
    unfold chkEL at h
    cases xs with
    | nil => cases ne
    | cons _ _ => cases h
  | .cons e es, X, sc, [], pos, cx, h, ne, g => by cases h
  | .cons e es, X, sc, x :: xs, pos, cx, h, ne, g => by
    unfold chkEL at h
    simp only [Bool.and_eq_true] at h
    obtain ⟨⟨h1, h2⟩, h3⟩ := h
    cases es with
    | nil =>
      unfold chkEL at h3
      cases xs with
      | nil => exact le_one (sndE e x cx h2 g.l)
      | cons _ _ => cases h3
    | cons e' es' =>
      cases xs with
      | nil => unfold chkEL at h3; cases h3
      | cons y ys => exact le_or (sndE e x cx h2 g.l) (sndOr (.cons e' es') (y :: ys) pos cx h3 rfl g.r)
theorem sndAndT {C : Ck} : ∀ (q : EL) {X : Cx} {sc : Scope} (xs : List Expr) (pos : Pos), Cq X C sc → chkEL C sc q xs = true → xs.isEmpty = false → GoodAll X (callsEL q) → PW X (.BoolOp .And xs pos) (liftT X.K (wpAndT q))
  | .nil, X, sc, xs, pos, cx, h, ne, g => by
    unfold chkEL at h
    cases xs with
    | nil => cases ne
    | cons _ _ => cases h
  | .cons e es, X, sc, [], pos, cx, h, ne, g => by cases h
  | .cons e es, X, sc, x :: xs, pos, cx, h, ne, g => by
    unfold chkEL at h
    simp only [Bool.and_eq_true] at h
    obtain ⟨⟨h1, h2⟩, h3⟩ := h
    cases es with
    | nil =>
      unfold chkEL at h3
      cases xs with
      | nil => exact lw_and1 (sndT e x cx h2 g.l)
      | cons _ _ => cases h3
    | cons e' es' =>
      cases xs with
      | nil => unfold chkEL at h3; cases h3
      | cons y ys => exact lw_and (sndT e x cx h2 g.l) (sndAndT (.cons e' es') (y :: ys) pos cx h3 rfl g.r)
theorem sndOrT {C : Ck} : ∀ (q : EL) {X : Cx} {sc : Scope} (xs : List Expr) (pos : Pos), Cq X C sc → chkEL C sc q xs = true → xs.isEmpty = false → GoodAll X (callsEL q) → PW X (.BoolOp .Or xs pos) (liftT X.K (wpOrT q))
  | .nil, X, sc, xs, pos, cx, h, ne, g => by
    unfold chkEL at h
    cases xs with
    | nil => cases ne
    | cons _ _ => cases h
  | .cons e es, X, sc, [], pos, cx, h, ne, g => by cases h
  | .cons e es, X, sc, x :: xs, pos, cx, h, ne, g => by
    unfold chkEL at h
    simp only [Bool.and_eq_true] at h
    obtain ⟨⟨h1, h2⟩, h3⟩ := h
    cases es with
    | nil =>
      unfold chkEL at h3
      cases xs with
      | nil => exact lw_or1 (sndT e x cx h2 g.l)
      | cons _ _ => cases h3
    | cons e' es' =>
      cases xs with
      | nil => unfold chkEL at h3; cases h3
      | cons y ys => exact lw_or (sndT e x cx h2 g.l) (sndOrT (.cons e' es') (y :: ys) pos cx h3 rfl g.r)
theorem sndT {C : Ck} : ∀ (q : E) {X : Cx} {sc : Scope} (e : Expr), Cq X C sc → chkE C sc q e = true → GoodAll X (callsE q) → PT X e (liftT X.K (wpT q))
  | .not a, X, sc, e, cx, h, g => by
    unfold chkE at h
    split at h
    · exact lt_not (sndT a _ cx h g)
    · cases h
  | .and es, X, sc, e, cx, h, g => by
    unfold chkE at h
    split at h
    · rename_i xs p
      simp only [Bool.and_eq_true, Bool.not_eq_true'] at h
      exact (sndAndT es xs p cx h.1 h.2 g).pt
    · cases h
  | .or es, X, sc, e, cx, h, g => by
    unfold chkE at h
    split at h
    · rename_i xs p
      simp only [Bool.and_eq_true, Bool.not_eq_true'] at h
      exact (sndOrT es xs p cx h.1 h.2 g).pt
    · cases h
  | .ite t a b, X, sc, e, cx, h, g => by
    unfold chkE at h
    split at h
    · simp only [Bool.and_eq_true] at h
      obtain ⟨⟨h1, h2⟩, h3⟩ := h
      exact lt_ite (sndT t _ cx h1 g.l) (sndT a _ cx h2 g.r.l) (sndT b _ cx h3 g.r.r)
    · cases h
  | .cmp o a b, X, sc, e, cx, h, g => by
    unfold chkE at h
    split at h
    · simp only [Bool.and_eq_true, decide_eq_true_eq] at h
      obtain ⟨⟨⟨h1, h2⟩, h3⟩, h4⟩ := h
      subst h1
      exact lt_cmp (cmp_ok cx.hu o) (sndE a _ cx h2 g.l) (sndE b _ cx h3 g.r) (mark_ok h4)
    · cases h
  | .chain o o' a b c, X, sc, e, cx, h, g => by
    unfold chkE at h
    split at h
    · simp only [Bool.and_eq_true, decide_eq_true_eq] at h
      obtain ⟨⟨⟨⟨⟨h1, h2⟩, h3⟩, h4⟩, h5⟩, h6⟩ := h
      subst h1 h2
      exact lt_chain (cmp_ok cx.hu o) (cmp_ok cx.hu o') (sndE a _ cx h3 g.l) (sndE b _ cx h4 g.r.l) (sndE c _ cx h5 g.r.r) (mark_ok h6)
    · cases h
  | .v i, X, sc, e, cx, h, g => by
    have he := sndE (.v i) e cx h g
    unfold chkE at h
    split at h
    · exact lt_truth he (by intro _; rfl)
    · cases h
  | .c d, X, sc, e, cx, h, g => by
    have he := sndE (.c d) e cx h g
    unfold chkE at h
    split at h
    · exact lt_truth he (by intro _; rfl)
    · cases h
  | .tup es, X, sc, e, cx, h, g => by
    have he := sndE (.tup es) e cx h g
    unfold chkE at h
    split at h
    · exact lt_truth he (by intro _; rfl)
    · cases h
  | .lst es, X, sc, e, cx, h, g => by
    have he := sndE (.lst es) e cx h g
    unfold chkE at h
    split at h
    · exact lt_truth he (by intro _; rfl)
    · cases h
  | .bin o a b, X, sc, e, cx, h, g => by
    have he := sndE (.bin o a b) e cx h g
    unfold chkE at h
    split at h
    · exact lt_truth he (by intro _; rfl)
    · cases h
  | .ix a b, X, sc, e, cx, h, g => by
    have he := sndE (.ix a b) e cx h g
    unfold chkE at h
    split at h
    · exact lt_truth he (by intro _; rfl)
    · cases h
  | .call f sp es, X, sc, e, cx, h, g => by
    have he := sndE (.call f sp es) e cx h g
    unfold chkE at h
    split at h
    · exact lt_truth he (by intro _; rfl)
    · cases h
  | .bi b es, X, sc, e, cx, h, g => by
    have he := sndE (.bi b es) e cx h g
    unfold chkE at h
    split at h
    · exact lt_truth he (by intro _; rfl)
    · cases h
  | .isi a ts, X, sc, e, cx, h, g => by
    have he := sndE (.isi a ts) e cx h g
    unfold chkE at h
    split at h
    · exact lt_truth he (by intro _; rfl)
    · exact lt_truth he (by intro _; rfl)
    · cases h
  | .ktup _, X, sc, e, cx, h, g | .neg _, X, sc, e, cx, h, g | .sl _ _ _, X, sc, e, cx, h, g | .rev _, X, sc, e, cx, h, g | .lrg _, X, sc, e, cx, h, g | .me _ _ _, X, sc, e, cx, h, g | .lc _ _ _ _ _, X, sc, e, cx, h, g | .lc2 _ _ _ _ _ _ _, X, sc, e, cx, h, g | .dc _ _ _ _ _ _, X, sc, e, cx, h, g | .dct _ _ _ _ _ _, X, sc, e, cx, h, g | .dic0, X, sc, e, cx, h, g | .g _ _, X, sc, e, cx, h, g =>
    ⟨fun _ _ _ _ _ _ ⟨_, _, _, _, _, f, _⟩ => False.elim f⟩
theorem sndI {C : Ck} : ∀ (q : It3) {X : Cx} {sc : Scope} (tg e : Expr), Cq X C sc → chkI C sc q e = true → (isTup tg == (match q with
        | .enum _ => true
        | .zip _ _ => true
        | .zip3 _ _ _ => true
        | _ => isTup tg)) = true → GoodAll X (callsI q) → PI X tg e (liftI X.K (wpI q))
  | .seq a, X, sc, tg, e, cx, h, ht, g => li_seq (sndE a e cx (by unfold chkI at h; exact h) g)
  | .rng1 a, X, sc, tg, e, cx, h, ht, g => by
    unfold chkI at h
    split at h
    · simp only [Bool.and_eq_true, decide_eq_true_eq] at h
      obtain ⟨⟨⟨⟨h1, h2⟩, h3⟩, h4⟩, h5⟩ := h
      subst h1
      exact li_rng1 (sndE a _ cx h4 g) (cx.gl h2) (cx.bl _ (List.contains_iff_mem.mp h3)) (star1 h5)
    · cases h
  | .rng2 a b, X, sc, tg, e, cx, h, ht, g => by
    unfold chkI at h
    split at h
    · simp only [Bool.and_eq_true, decide_eq_true_eq] at h
      obtain ⟨⟨⟨⟨⟨⟨h1, h2⟩, h3⟩, h4⟩, h5⟩, h6⟩, h7⟩ := h
      subst h1
      exact li_rng2 (sndE a _ cx h4 g.l) (sndE b _ cx h6 g.r) (cx.gl h2) (cx.bl _ (List.contains_iff_mem.mp h3)) (star1 h5) (star1 h7)
    · cases h
  | .rng3 a b c, X, sc, tg, e, cx, h, ht, g => by
    unfold chkI at h
    split at h
    · simp only [Bool.and_eq_true, decide_eq_true_eq] at h
      obtain ⟨⟨⟨⟨⟨⟨⟨⟨h1, h2⟩, h3⟩, h4⟩, h5⟩, h6⟩, h7⟩, h8⟩, h9⟩ := h
      subst h1
      exact li_rng3 (sndE a _ cx h4 g.l) (sndE b _ cx h6 g.r.l) (sndE c _ cx h8 g.r.r) (cx.gl h2) (cx.bl _ (List.contains_iff_mem.mp h3)) (star1 h5) (star1 h7) (star1 h9)
    · cases h
  | .enum a, X, sc, tg, e, cx, h, ht, g => by
    unfold chkI at h
    split at h
    · simp only [Bool.and_eq_true, decide_eq_true_eq] at h
      obtain ⟨⟨⟨⟨h1, h2⟩, h3⟩, h4⟩, h5⟩ := h
      subst h1
      cases tg <;> first
        | exact li_enum (sndE a _ cx h4 g) (cx.gl h2) (cx.bl _ (List.contains_iff_mem.mp h3)) (star1 h5)
        | exact absurd ht (by simp [isTup])
    · cases h
  | .zip a b, X, sc, tg, e, cx, h, ht, g => by
    unfold chkI at h
    split at h
    · simp only [Bool.and_eq_true, decide_eq_true_eq] at h
      obtain ⟨⟨⟨⟨⟨⟨h1, h2⟩, h3⟩, h4⟩, h5⟩, h6⟩, h7⟩ := h
      subst h1
      cases tg <;> first
        | exact li_zip (sndE a _ cx h4 g.l) (sndE b _ cx h6 g.r) (cx.gl h2) (cx.bl _ (List.contains_iff_mem.mp h3)) (star1 h5) (star1 h7) (starAny (by rw [List.all_cons, h7]; rfl))
        | exact absurd ht (by simp [isTup])
    · cases h
  | .zip3 a b c, X, sc, tg, e, cx, h, ht, g => by
    unfold chkI at h
    split at h
    · simp only [Bool.and_eq_true, decide_eq_true_eq] at h
      obtain ⟨⟨⟨⟨⟨⟨⟨⟨h1, h2⟩, h3⟩, h4⟩, h5⟩, h6⟩, h7⟩, h8⟩, h9⟩ := h
      subst h1
      cases tg <;> first
        | exact li_zip3 (sndE a _ cx h4 g.l) (sndE b _ cx h6 g.r.l) (sndE c _ cx h8 g.r.r) (cx.gl h2) (cx.bl _ (List.contains_iff_mem.mp h3)) (star1 h5) (star1 h7) (star1 h9) (starAny (by rw [List.all_cons, List.all_cons, h7, h9]; rfl))
        | exact absurd ht (by simp [isTup])
    · cases h
end
end G3
set_option Elab.async false
set_option linter.all false
set_option maxRecDepth 100000
set_option maxHeartbeats 16000000
namespace G3
open PySem PySem.Spec PyProof.Rows L2
mutual
def callsS : S → List (String × Sp3)
  | .set _ e | .aug _ _ e | .ex e | .ret e => callsE e
  | .setSub a i e => callsE a ++ (callsE i ++ callsE e)
  | .par _ _ a b => callsE a ++ callsE b
  | .swp a i b j u v => callsE u ++ (callsE v ++ (callsE a ++ (callsE i ++ (callsE b ++ callsE j))))
  | .augSub a i _ e => callsE a ++ (callsE i ++ callsE e)
  | .ret0 | .brk | .cont | .pass => []
  | .ite t a b => callsE t ++ (callsSs a ++ callsSs b)
  | .whil t b => callsE t ++ callsSs b
  | .for_ _ it b => callsI it ++ callsSs b
def callsSs : SL → List (String × Sp3)
  | .nil => []
  | .cons s ss => callsS s ++ callsSs ss
end
def isLc : E → Bool
  | .lc _ _ _ _ _ => true
  | .lc2 _ _ _ _ _ _ _ => true
  | .dc _ _ _ _ _ _ => true
  | .dct _ _ _ _ _ _ => true
  | _ => false
mutual
def chkS (C : Ck) (sc : Scope) : S → Stmt → Bool
  | .set t e, s => (match s with
    | .Assign [tg] v _ => chkTn C.N sc t tg && chkE C sc e v && (match tg with
      | .Name y py => !(swB sc y py v) || isLc e
      | .Tuple ts _ _ => (match v with
        | .Tuple vs _ _ => swNone sc ts vs
        | _ => true)
      | _ => false)
    | _ => false)
  | .setSub a i e, s => (match s with
    | .Assign [.Subscript x y _] v _ => chkE C sc a x && chkE C sc i y && chkE C sc e v && nSl y
    | _ => false)
  | .par i j a b, s => (match s with
    | .Assign [.Tuple [.Name x px, .Name y py] _ _] (.Tuple [u, v] _ _) _ => decide (C.N[i]? = some x) && decide (C.N[j]? = some y) && decide (i ≠ j) && chkE C sc a u && chkE C sc b v && swSome sc x y px py u v
    | _ => false)
  | .swp a i b j u v, s => (match s with
    | .Assign [.Tuple [.Subscript x y _, .Subscript z w _] _ _] (.Tuple [p, q] _ _) _ => chkE C sc a x && chkE C sc i y && chkE C sc b z && chkE C sc j w && chkE C sc u p && chkE C sc v q && nSl y && nSl w && nStar p && nStar q
    | _ => false)
  | .aug i o e, s => (match s with
    | .AugAssign (.Name x _) op v _ => decide (op = o.op) && decide (C.N[i]? = some x) && locB sc x && chkE C sc e v
    | _ => false)
  | .augSub a i o e, s => (match s with
    | .AugAssign (.Subscript x y _) op v _ => decide (op = o.op) && chkE C sc a x && chkE C sc i y && chkE C sc e v && nSl y
    | _ => false)
  | .ex e, s => (match s with
    | .Expr v _ => chkE C sc e v && nComp v
    | _ => false)
  | .ret e, s => (match s with
    | .Return (some v) _ => chkE C sc e v
    | _ => false)
  | .ret0, s => (match s with
    | .Return none _ => true
    | _ => false)
  | .ite t a b, s => (match s with
    | .If c x y _ => chkE C sc t c && chkSs C sc a x && chkSs C sc b y
    | _ => false)
  | .whil t b, s => (match s with
    | .While c x [] _ => chkE C sc t c && chkSs C sc b x
    | _ => false)
  | .for_ tn it b, s => (match s with
    | .For tg iter x [] _ => chkTn C.N sc tn tg && chkI C sc it iter && nSet iter && (isTup tg == (match it with
        | .enum _ => true
        | .zip _ _ => true
        | .zip3 _ _ _ => true
        | _ => isTup tg)) && chkSs C sc b x
    | _ => false)
  | .brk, s => (match s with
    | .Break _ => true
    | _ => false)
  | .cont, s => (match s with
    | .Continue _ => true
    | _ => false)
  | .pass, s => (match s with
    | .Pass _ => true
    | _ => false)
def chkSs (C : Ck) (sc : Scope) : SL → List Stmt → Bool
  | .nil, l => l.isEmpty
  | .cons s ss, l => (match l with
    | x :: r => chkS C sc s x && chkSs C sc ss r
    | [] => false)
end
theorem asg1 {e : Expr} {env : Env} (h : nStar e = true) : (assignEach [e] env).map (·.2) = [assign e env] := by rw [assignEach1 h]; rfl
theorem assign_sub {x y : Expr} {p : Pos} {env : Env} (h : nSl y = true) : ∀ v, assign (.Subscript x y p) env v = (do
      let ov ← holding [v] (eval x env)
      let iv ← holding [v, ov] (eval y env)
      standAt p
      holding [v, ov, iv] (setItem ov iv v)
      release [v, ov, iv] []) := by
  intro v
  cases y <;> first | rfl | cases h
theorem aug_st {y : Expr} (h : nSl y = true) : ∀ ov iv new, augStore y ov iv new = (do holding [new, ov, iv] (setItem ov iv new); release [new, ov, iv] []; pure .next) := by
  intro ov iv new
  cases y <;> first | rfl | cases h
theorem swNone_sub {x y z w : Expr} {px pz pt : Pos} {kt : Nat} {v : Expr} {env : Env} : swappedStores [.Tuple [.Subscript x y px, .Subscript z w pz] kt pt] v env = pure none := by
  cases v <;> try rfl
  unfold swappedStores
  simp
mutual
theorem sndS {C : Ck} {X : Cx} {sc : Scope} (cx : Cq X C sc) (lo : LocOk X sc) : ∀ (q : S) (s : Stmt), chkS C sc q s = true → GoodAll X (callsS q) → PS X s (liftS X.K (wpS q))
  | .set t e, s, h, g => by
    unfold chkS at h
    split at h
    · rename_i tg v pos
      simp only [Bool.and_eq_true] at h
      obtain ⟨⟨h1, h2⟩, h3⟩ := h
      have G := sndTn cx.n cx.nd cx.calm lo t tg h1
      split at h3
      · rename_i y py
        cases hb : swB sc y py v with
        | false => exact ls_set (sndE e v cx h2 g) G (swB_no (l := pos.line) cx.hs hb) swn rfl
        | true =>
          rw [hb] at h3
          have hl : isLc e = true := h3
          cases t with
          | tup ts => unfold chkTn at h1; cases h1
          | nm i =>
          unfold chkTn at h1
          simp only [Bool.and_eq_true, decide_eq_true_eq] at h1
          cases e with
          | lc own tn it t b =>
            unfold chkE at h2
            split at h2
            · rename_i elt tg' iter ifs scope p'
              simp only [Bool.and_eq_true] at h2
              obtain ⟨⟨⟨⟨⟨⟨⟨k1, k2⟩, k3⟩, k4⟩, k5⟩, k6⟩, k7⟩, k8⟩ := h2
              have ok : BlkOk X.N X.env.scope scope (strN own) := by rw [cx.n, cx.hs]; exact blkOk_by k1
              have hw : (strN own).map (·.2) = own.map (·.2) := by unfold strN; rw [List.map_map]; rfl
              have hloc : X.env.scope.names.lookup y = some .local := by
                rw [cx.hs]
                have hb' : (sc.names.lookup y == some .local && py.line == p'.line && !(scope.names.any fun (n, k) => n == y && (k == .local || k == .cell))) = true := hb
                simp only [Bool.and_eq_true, beq_iff_eq] at hb'
                exact hb'.1.1
              have R := ls_lc (own := strN own) (spos := pos) cx.calm (by rw [cx.n]; exact cx.nd) (by rw [cx.n]; exact h1.1) hloc (swB_yes cx.hs cx.kind hb) (sndI it tg' iter cx k4 k6 g.l) ok
                (fun s H Cc cl fp => sndTn (cx.blk ok.kind s H Cc cl fp).n cx.nd cx.calm (loc_blk cx s H Cc cl fp) tn tg' k2)
                (fun s H Cc cl fp => sndTO t ifs (cx.blk ok.kind s H Cc cl fp) k7 g.r.l)
                (fun s H Cc cl fp => sndE b elt (cx.blk ok.kind s H Cc cl fp) k8 g.r.r) (fold_ok k5) (by rw [hw]; exact k3)
              rw [hw] at R
              exact R
            · cases h2
          | lc2 own tn it vs1 tn1 it1 b =>
            unfold chkE at h2
            split at h2
            · rename_i elt tg' iter tg1 iter1 scope p'
              simp only [Bool.and_eq_true] at h2
              obtain ⟨⟨⟨⟨⟨⟨⟨⟨⟨⟨⟨⟨k1, k2⟩, k3⟩, k4⟩, k5⟩, k6⟩, j1⟩, j2⟩, j3⟩, j4⟩, j5⟩, j6⟩, j7⟩ := h2
              have ok : BlkOk X.N X.env.scope scope (strN own) := by rw [cx.n, cx.hs]; exact blkOk_by k1
              have hw : (strN own).map (·.2) = own.map (·.2) := by unfold strN; rw [List.map_map]; rfl
              have hloc : X.env.scope.names.lookup y = some .local := by
                rw [cx.hs]
                have hb' : (sc.names.lookup y == some .local && py.line == p'.line && !(scope.names.any fun (n, k) => n == y && (k == .local || k == .cell))) = true := hb
                simp only [Bool.and_eq_true, beq_iff_eq] at hb'
                exact hb'.1.1
              have R := ls_lc2 (own := strN own) (vs1 := vs1) (spos := pos) cx.calm (by rw [cx.n]; exact cx.nd) (by rw [cx.n]; exact h1.1) hloc (swB_yes cx.hs cx.kind hb) (sndI it tg' iter cx k4 k6 g.l) ok
                (fun i hi => by rw [hw]; exact List.contains_iff_mem.mp (List.all_eq_true.mp j6 i hi))
                (fun s H Cc cl fp => sndTn (cx.blk ok.kind s H Cc cl fp).n cx.nd cx.calm (loc_blk cx s H Cc cl fp) tn tg' k2)
                (fun s H Cc cl fp => sndI it1 tg1 iter1 (cx.blk ok.kind s H Cc cl fp) j3 j5 g.r.l)
                (fun s H Cc cl fp => sndTn (cx.blk ok.kind s H Cc cl fp).n cx.nd cx.calm (loc_blk cx s H Cc cl fp) tn1 tg1 j1)
                (fun s H Cc cl fp => sndE b elt (cx.blk ok.kind s H Cc cl fp) j7 g.r.r) (fold_ok k5) (fun env => fold_ok j4) (by rw [hw]; exact k3) j2
              rw [hw] at R
              exact R
            · cases h2
          | dc own tn it t k b =>
            unfold chkE at h2
            split at h2
            · rename_i kx vx tg' iter ifs scope p'
              simp only [Bool.and_eq_true] at h2
              obtain ⟨⟨⟨⟨⟨⟨⟨⟨k1, k2⟩, k3⟩, k4⟩, k5⟩, k6⟩, k7⟩, k8⟩, k9⟩ := h2
              have ok : BlkOk X.N X.env.scope scope (strN own) := by rw [cx.n, cx.hs]; exact blkOk_by k1
              have hw : (strN own).map (·.2) = own.map (·.2) := by unfold strN; rw [List.map_map]; rfl
              have hloc : X.env.scope.names.lookup y = some .local := by
                rw [cx.hs]
                have hb' : (sc.names.lookup y == some .local && py.line == p'.line && !(scope.names.any fun (n, k) => n == y && (k == .local || k == .cell))) = true := hb
                simp only [Bool.and_eq_true, beq_iff_eq] at hb'
                exact hb'.1.1
              have R := ls_dc (own := strN own) (spos := pos) cx.calm (by rw [cx.n]; exact cx.nd) (by rw [cx.n]; exact h1.1) hloc (swB_yesD cx.hs cx.kind hb) (sndI it tg' iter cx k4 k6 g.l) ok
                (fun s H Cc cl fp => sndTn (cx.blk ok.kind s H Cc cl fp).n cx.nd cx.calm (loc_blk cx s H Cc cl fp) tn tg' k2)
                (fun s H Cc cl fp => sndTO t ifs (cx.blk ok.kind s H Cc cl fp) k7 g.r.l)
                (fun s H Cc cl fp => sndE k kx (cx.blk ok.kind s H Cc cl fp) k8 g.r.r.l)
                (fun s H Cc cl fp => sndE b vx (cx.blk ok.kind s H Cc cl fp) k9 g.r.r.r) (fold_ok k5) (by rw [hw]; exact k3)
              rw [hw] at R
              exact R
            · cases h2
          | dct own tn it t k b =>
            unfold chkE at h2
            split at h2
            · rename_i kx vx tg' iter ifs scope p'
              simp only [Bool.and_eq_true] at h2
              obtain ⟨⟨⟨⟨⟨⟨⟨⟨k1, k2⟩, k3⟩, k4⟩, k5⟩, k6⟩, k7⟩, k8⟩, k9⟩ := h2
              have ok : BlkOk X.N X.env.scope scope (strN own) := by rw [cx.n, cx.hs]; exact blkOk_by k1
              have hw : (strN own).map (·.2) = own.map (·.2) := by unfold strN; rw [List.map_map]; rfl
              have hloc : X.env.scope.names.lookup y = some .local := by
                rw [cx.hs]
                have hb' : (sc.names.lookup y == some .local && py.line == p'.line && !(scope.names.any fun (n, k) => n == y && (k == .local || k == .cell))) = true := hb
                simp only [Bool.and_eq_true, beq_iff_eq] at hb'
                exact hb'.1.1
              have R := ls_dct (own := strN own) (spos := pos) cx.hu cx.calm (by rw [cx.n]; exact cx.nd) (by rw [cx.n]; exact h1.1) hloc (swB_yesD cx.hs cx.kind hb) (sndI it tg' iter cx k4 k6 g.l) ok
                (fun s H Cc cl fp => sndTn (cx.blk ok.kind s H Cc cl fp).n cx.nd cx.calm (loc_blk cx s H Cc cl fp) tn tg' k2)
                (fun s H Cc cl fp => sndTO t ifs (cx.blk ok.kind s H Cc cl fp) k7 g.r.l)
                (fun s H Cc cl fp => sndE k kx (cx.blk ok.kind s H Cc cl fp) k8 g.r.r.l)
                (fun s H Cc cl fp => sndE b vx (cx.blk ok.kind s H Cc cl fp) k9 g.r.r.r) (fold_ok k5) (by rw [hw]; exact k3)
              rw [hw] at R
              exact R
            · cases h2
          | _ => cases hl
      · rename_i ts k p
        have hn : swappedStores [.Tuple ts k p] v X.env = pure none := by
          cases v <;> first
            | exact swNone_ok cx.hs h3
            | rfl
        exact ls_set (sndE e v cx h2 g) G (show swapsWith v (some (.Tuple ts k p)) pos.line X.env = pure false from swt) hn rfl
      · cases h3
    · cases h
  | .setSub a i e, s, h, g => by
    unfold chkS at h
    split at h
    · rename_i x y p' v pos
      simp only [Bool.and_eq_true] at h
      obtain ⟨⟨⟨h1, h2⟩, h3⟩, h4⟩ := h
      exact le_setSub cx.hu (sndE e _ cx h3 g.r.r) (sndE a _ cx h1 g.l) (sndE i _ cx h2 g.r.l) (show swapsWith v (some (.Subscript x y p')) pos.line X.env = pure false from swu) sws (assign_sub h4)
    · cases h
  | .par i j a b, s, h, g => by
    unfold chkS at h
    split at h
    · simp only [Bool.and_eq_true, decide_eq_true_eq] at h
      obtain ⟨⟨⟨⟨⟨h1, h2⟩, h3⟩, h4⟩, h5⟩, h6⟩ := h
      have h7 := h6
      unfold swSome at h7
      simp only [Bool.and_eq_true, Bool.not_eq_true', beq_iff_eq, bne_iff_ne] at h7
      obtain ⟨⟨⟨⟨⟨⟨⟨hx, hy⟩, hl⟩, hne⟩, na⟩, nb⟩, hf⟩, hc⟩ := h7
      exact ls_par cx.calm (by rw [cx.n]; exact cx.nd) (by rw [cx.n]; exact h1) (by rw [cx.n]; exact h2) h3 (by rw [cx.hs]; exact hx) (by rw [cx.hs]; exact hy) (sndE a _ cx h4 g.l) (sndE b _ cx h5 g.r) (star1 na) (star1 nb) (swSome_ok cx.hs cx.kind h6)
    · cases h
  | .swp a i b j u v, s, h, g => by
    unfold chkS at h
    split at h
    · rename_i x y px z w pz kt pt p q k2 pt2 pos
      simp only [Bool.and_eq_true] at h
      obtain ⟨⟨⟨⟨⟨⟨⟨⟨⟨h1, h2⟩, h3⟩, h4⟩, h5⟩, h6⟩, h7⟩, h8⟩, h9⟩, h10⟩ := h
      have hE : PE X (.Tuple [p, q] k2 pt2) (lift X.K fun τ M Q => wpE u τ M fun d M1 => wpE v τ M1 fun e M2 => Q (.tup [d, e]) M2) :=
        le_tup (la_cons (sndE u _ cx h5 g.l) (la_cons (sndE v _ cx h6 g.r.l) la_nil (star1 h10)) (star1 h9)) (by decide)
      exact ls_swp cx.calm cx.hu hE (sndE a _ cx h1 g.r.r.l) (sndE i _ cx h2 g.r.r.r.l) (sndE b _ cx h3 g.r.r.r.r.l) (sndE j _ cx h4 g.r.r.r.r.r) rfl (swNone_sub) (assign_sub h7) (assign_sub h8)
    · cases h
  | .aug i o e, s, h, g => by
    unfold chkS at h
    split at h
    · simp only [Bool.and_eq_true, decide_eq_true_eq] at h
      obtain ⟨⟨⟨h1, h2⟩, h3⟩, h4⟩ := h
      subst h1
      obtain ⟨l1, l2⟩ := lo _ h3
      exact ls_aug (by rw [cx.n]; exact cx.nd) (by rw [cx.n]; exact h2) l1 (sndE e _ cx h4 g) l2
    · cases h
  | .augSub a i o e, s, h, g => by
    unfold chkS at h
    split at h
    · simp only [Bool.and_eq_true, decide_eq_true_eq] at h
      obtain ⟨⟨⟨⟨h1, h2⟩, h3⟩, h4⟩, h5⟩ := h
      subst h1
      exact ls_augSub cx.hu (sndE a _ cx h2 g.l) (sndE i _ cx h3 g.r.l) (sndE e _ cx h4 g.r.r) (aug_st h5)
    · cases h
  | .ex e, s, h, g => by
    unfold chkS at h
    split at h
    · simp only [Bool.and_eq_true] at h
      exact ls_ex (sndE e _ cx h.1 g) (sw_no h.2)
    · cases h
  | .ret e, s, h, g => by
    unfold chkS at h
    split at h
    · exact ls_ret (sndE e _ cx h g)
    · cases h
  | .ret0, s, h, g => by
    unfold chkS at h
    split at h
    · exact ls_ret0
    · cases h
  | .ite t a b, s, h, g => by
    unfold chkS at h
    split at h
    · simp only [Bool.and_eq_true] at h
      obtain ⟨⟨h1, h2⟩, h3⟩ := h
      exact ls_if (sndT t _ cx h1 g.l) (sndSs cx lo a _ h2 g.r.l) (sndSs cx lo b _ h3 g.r.r)
    · cases h
  | .whil t b, s, h, g => by
    unfold chkS at h
    split at h
    · simp only [Bool.and_eq_true] at h
      exact ls_while cx.hp (sndT t _ cx h.1 g.l) (sndSs cx lo b _ h.2 g.r)
    · cases h
  | .for_ tn it b, s, h, g => by
    unfold chkS at h
    split at h
    · simp only [Bool.and_eq_true] at h
      obtain ⟨⟨⟨⟨h1, h2⟩, h3⟩, h4⟩, h5⟩ := h
      exact ls_for cx.hp cx.calm (sndI it _ _ cx h2 h4 g.l) (sndTn cx.n cx.nd cx.calm lo tn _ h1) (sndSs cx lo b _ h5 g.r) (fold_ok h3)
    · cases h
  | .brk, s, h, g => by
    unfold chkS at h
    split at h
    · exact ls_brk
    · cases h
  | .cont, s, h, g => by
    unfold chkS at h
    split at h
    · exact ls_cont
    · cases h
  | .pass, s, h, g => by
    unfold chkS at h
    split at h
    · exact ls_pass
    · cases h
theorem sndSs {C : Ck} {X : Cx} {sc : Scope} (cx : Cq X C sc) (lo : LocOk X sc) : ∀ (q : SL) (l : List Stmt), chkSs C sc q l = true → GoodAll X (callsSs q) → PSs X l (liftS X.K (wpSs q))
  | .nil, l, h, g => by
    unfold chkSs at h
    cases l with
    | nil => exact lss_nil
    | cons _ _ => cases h
  | .cons s ss, [], h, g => by cases h
  | .cons s ss, x :: l, h, g => by
    unfold chkSs at h
    simp only [Bool.and_eq_true] at h
    exact lss_cons (t := wpS s) (u := wpSs ss) (sndS cx lo s x h.1 g.l) (sndSs cx lo ss l h.2 g.r)
end
/-! ### a def keeps its promise -/
structure GoodG (P : Program) (w : World) (K : PySem.W.Frag) (mg : Str → Option Value) (base : Heap) (k : Nat) (x : String) (sp : Sp3) : Prop where
  ex : ∃ f fd ps j, j ≤ k ∧ FnOk P w K mg base CX0 j f fd ps (liftSp K sp) ∧ mg (Str.ofString x) = some (.ref f) ∧ PySem.W.keepIn K (.ref f) = true ∧ Binds K fd ps []
theorem GoodG.mono {P : Program} {w : World} {K : PySem.W.Frag} {mg : Str → Option Value} {base : Heap} {j k : Nat} {x : String} {sp : Sp3} (g : GoodG P w K mg base j x sp) (h : j ≤ k) : GoodG P w K mg base k x sp := by
  obtain ⟨f, fd, ps, i, hi, r⟩ := g.ex
  exact ⟨f, fd, ps, i, Nat.le_trans hi h, r⟩
/-- what a body must reach -/
def rets (Q : K3) : Ends3 where
  nx := fun _ M' => wk (Q .non) M'
  rt := fun d M' => wk (Q d) M'
def st3 (n : Nat) (ds : List D) : S3 := ds.map some ++ List.replicate (n - ds.length) none
theorem fn_ok {P : Program} {w : World} {K : PySem.W.Frag} {mg : Str → Option Value} {base : Heap} {qual : Str} {params : Arguments} {bodyS : List Stmt} {scope : Scope} {kws : List (Str × V)} {f : Addr} {fd : FuncData} {ps : List Str} {k : Nat} {nm : Str}
    (F : FunD K nm qual params bodyS scope [] kws f fd) (C : Ck) (Sc : FnScope C.N ps scope) (body : SL) (hchk : chkSs C scope body bodyS = true) (hbl : ∀ x ∈ C.bl, mg x = none) (him : ∀ p ∈ C.im, mg p.1 = some (.builtin p.2)) (hcn : ∀ p ∈ C.cn, ∃ v u, mg p.1 = some u ∧ RelV v u ∧ ∀ H, Rep K H v p.2.d)
    (hg : ∀ p ∈ callsSs body, GoodG P w K mg base k p.1 p.2) (sp : Sp3)
    (hl : ∀ ds M Q, sp ds M Q → ds.length = ps.length) (hsp : ∀ ds M Q, sp ds M Q → wpSs body (rets Q) (st3 C.N.length ds) M) : FnOk P w K mg base CX0 (k + 1) f fd ps (liftSp K sp) := by
  refine F.ok Sc (fun vs H Q E ⟨ds, M, Q3, hr, r, h, L⟩ => by rw [r.length]; exact hl _ _ _ h) (fun cdv A outer s H vs Q E hr ⟨ds, M, Q3, hm, r, h, L⟩ => ⟨_, PSs.nox (X := cxOf CX0 P w K mg base C.N qual scope f cdv A outer s H E) (sndSs (C := C) (sc := scope) ⟨rfl, rfl, Sc.nd, rfl, hr.units, hbl, him, hcn, Sc.kind, rfl⟩ (fun x hx => ⟨?_, .inl rfl⟩) body bodyS hchk (fun p hp => ?_)), ?_⟩)
  · unfold locB at hx
    split at hx
    · exact .inl (by assumption)
    · exact .inr (by assumption)
    · cases hx
  · obtain ⟨f', fd', ps', j, hj, g1, g2, g3, g4⟩ := (hg p hp).ex
    exact ⟨f', fd', ps', j, g1, hr.mono hj, g2, g3, g4⟩
  · refine ⟨st3 C.N.length ds, M, rets Q3, hm, ?_, hsp _ _ _ h, ?_⟩
    · unfold L2.start st3
      rw [r.length]
      exact Slots.start _ r
    · exact ⟨fun σ' H' τ' M' q g hr' _ => let ⟨M0, sb, q⟩ := q; L _ _ _ _ q g (hr'.sub sb) .non, fun v H' d M' q g hr' rv => let ⟨M0, sb, q⟩ := q; L _ _ _ _ q g (hr'.sub sb) rv, fun _ _ _ _ q => q.elim, fun _ _ _ _ q => q.elim⟩
theorem good_ok {P : Program} {w : World} {K : PySem.W.Frag} {mg : Str → Option Value} {base : Heap} {qual : Str} {params : Arguments} {bodyS : List Stmt} {scope : Scope} {kws : List (Str × V)} {f : Addr} {fd : FuncData} {ps : List Str} {k : Nat} {nm : Str} {x : String}
    (F : FunD K nm qual params bodyS scope [] kws f fd) (C : Ck) (Sc : FnScope C.N ps scope) (body : SL) (hchk : chkSs C scope body bodyS = true) (hbl : ∀ x ∈ C.bl, mg x = none) (him : ∀ p ∈ C.im, mg p.1 = some (.builtin p.2)) (hcn : ∀ p ∈ C.cn, ∃ v u, mg p.1 = some u ∧ RelV v u ∧ ∀ H, Rep K H v p.2.d)
    (hm : mg (Str.ofString x) = some (.ref f)) (hb : Binds K fd ps [])
    (hg : ∀ p ∈ callsSs body, GoodG P w K mg base k p.1 p.2) (sp : Sp3)
    (hl : ∀ ds M Q, sp ds M Q → ds.length = ps.length) (hsp : ∀ ds M Q, sp ds M Q → wpSs body (rets Q) (st3 C.N.length ds) M) : GoodG P w K mg base (k + 1) x sp :=
  ⟨f, fd, ps, k + 1, Nat.le_refl _, fn_ok F C Sc body hchk hbl him hcn hg sp hl hsp, hm, F.kp, hb⟩
end G3
set_option Elab.async false
set_option linter.all false
set_option maxRecDepth 100000
set_option maxHeartbeats 4000000
/-! short rules for readings -/
namespace G3
open L2
section
variable {M : Mp} {Q : K3} {p q : PySem.Addr} {l m : List D} {i j : Int} {d e : D} {α : Type}
theorem some3_some {x : α} {f : α → Prop} : some3 (some x) f = f x := rfl
theorem some3_none {f : α → Prop} : some3 none f = False := rfl
theorem atI0 {x : α} {r : List α} : atI (x :: r) 0 = some x := atI_nat (j := 0) rfl
theorem atI1 {x y : α} {r : List α} : atI (x :: y :: r) 1 = some y := atI_nat (j := 1) rfl
theorem atI2 {x y z : α} {r : List α} : atI (x :: y :: z :: r) 2 = some z := atI_nat (j := 2) rfl
theorem atI3 {x y z w : α} {r : List α} : atI (x :: y :: z :: w :: r) 3 = some w := atI_nat (j := 3) rfl
theorem atI_some {l : List α} {i : Int} (h0 : 0 ≤ i) (h1 : i < l.length) : atI l i = some (l[i.toNat]'(by omega)) := by
  have : (i.toNat : Int) = i := by omega
  have e := atI_nat (xs := l) (j := i.toNat) (v := l[i.toNat]'(by omega)) (List.getElem?_eq_getElem (by omega))
  rw [this] at e; exact e
theorem atI_map {β : Type} {f : α → β} {l : List α} {i : Int} : atI (l.map f) i = (atI l i).map f := by
  unfold atI
  rw [List.length_map]
  cases ixN l.length i with
  | none => rfl
  | some k => simp
/-- an item of ints -/
def getZ (l : List Int) (i : Int) : Int := l.getD i.toNat 0
theorem atI_ints {l : List Int} {i : Int} (h0 : 0 ≤ i) (h1 : i < l.length) : atI (l.map D.int) i = some (.int (getZ l i)) := by
  rw [atI_map, atI_some h0 h1]
  unfold getZ
  rw [List.getD_eq_getElem?_getD, List.getElem?_eq_getElem (by omega)]
  rfl
theorem ix3_tup : ix3 (.tup l) (.int i) M Q = some3 (atI l i) fun x => Q x M := by
  unfold ix3 some3; dsimp only; cases atI l i <;> rfl
theorem ix3_cl : ix3 (.cl l) (.int i) M Q = some3 (atI l i) fun x => Q x M := by
  unfold ix3 some3; dsimp only; cases atI l i <;> rfl
theorem ix3_ref (h : M p = some (.lst l)) : ix3 (.ref p) (.int i) M Q = some3 (atI l i) fun x => Q x M := by
  unfold ix3 some3; dsimp only; rw [h]; dsimp only; cases atI l i <;> rfl
theorem ix3_dic {l : List (Key × D)} (h : M p = some (.dic l)) : ix3 (.ref p) (.int i) M Q = some3 (getK l (.inl i)) fun x => Q x M := by
  unfold ix3 some3; dsimp only; rw [h]; dsimp only [keyD]; cases getK l (.inl i) <;> rfl
theorem ix3_kt : ix3 (.kt l) (.int i) M Q = some3 (atI l i) fun x => Q x M := by
  unfold ix3 some3; dsimp only; cases atI l i <;> rfl
theorem ix3_dit {t : List (List Key × D)} {ks : List Key} (h : M p = some (.dit t)) (hk : keysD l = some ks) : ix3 (.ref p) (.kt l) M Q = some3 (getT t ks) fun x => Q x M := by
  unfold ix3 some3; dsimp only; rw [h]; dsimp only [keyT]; rw [hk]; dsimp only; cases getT t ks <;> rfl
theorem ix3_intsT {ns : List Int} (h0 : 0 ≤ i) (h1 : i < ns.length) : ix3 (.tup (ns.map .int)) (.int i) M Q = Q (.int (getZ ns i)) M := by
  rw [ix3_tup, atI_ints h0 h1, some3_some]
theorem ix3_intsL {ns : List Int} (h : M p = some (.lst (ns.map .int))) (h0 : 0 ≤ i) (h1 : i < ns.length) : ix3 (.ref p) (.int i) M Q = Q (.int (getZ ns i)) M := by
  rw [ix3_ref h, atI_ints h0 h1, some3_some]
theorem getR3_ref : getR3 (.ref p) e M Q = ix3 (.ref p) e M Q := rfl
theorem len3_tup : len3 (.tup l) M Q = Q (.int l.length) M := rfl
theorem len3_cl : len3 (.cl l) M Q = Q (.int l.length) M := rfl
theorem len3_ref (h : M p = some (.lst l)) : len3 (.ref p) M Q = Q (.int l.length) M := by unfold len3; dsimp only; rw [h]
theorem len3_dic {l : List (Key × D)} (h : M p = some (.dic l)) : len3 (.ref p) M Q = Q (.int l.length) M := by unfold len3; dsimp only; rw [h]
theorem add_int : bin3 .add (.int i) (.int j) M Q = Q (.int (i + j)) M := rfl
theorem add_tup : bin3 .add (.tup l) (.tup m) M Q = (l.length + m.length ≤ PySem.sizeLine ∧ Q (.tup (l ++ m)) M) := rfl
theorem add_ref (h : M p = some (.lst l)) (h' : M q = some (.lst m)) : bin3 .add (.ref p) (.ref q) M Q = (l.length + m.length ≤ PySem.sizeLine ∧ newL (l ++ m) M Q) := by
  apply propext
  constructor
  · rintro ⟨a, b, ha, hb, z⟩
    rw [getL_of h] at ha; rw [getL_of h'] at hb
    cases ha; cases hb
    exact z
  · intro z
    exact ⟨_, _, getL_of h, getL_of h', z⟩
theorem sub_int : bin3 .sub (.int i) (.int j) M Q = Q (.int (i - j)) M := rfl
theorem mul_int : bin3 .mul (.int i) (.int j) M Q = (MulOk i j ∧ Q (.int (i * j)) M) := rfl
theorem mul_ref (h : M p = some (.lst l)) : bin3 .mul (.ref p) (.int j) M Q = ((-(2 ^ 63) ≤ j ∧ j < 2 ^ 63 ∧ l.length * j.toNat ≤ PySem.sizeLine) ∧ newL (List.replicate j.toNat l).flatten M Q) := by
  apply propext
  constructor
  · rintro ⟨a, ha, z⟩
    rw [getL_of h] at ha
    cases ha
    exact z
  · intro z
    exact ⟨_, getL_of h, z⟩
theorem mul_tup : bin3 .mul (.tup l) (.int j) M Q = ((l ≠ [] ∧ 1 ≤ j ∧ j ≤ 1000 ∧ l.length ≤ 1000) ∧ Q (.tup (List.replicate j.toNat l).flatten) M) := rfl
theorem wpG_ref {ts : TnL} {τ : S3} {R : S3 → Prop} (h : M p = some (.lst l)) : wpG (.tup ts) (.ref p) M τ R = wpGs ts l M τ R := by unfold wpG; dsimp only; rw [h]
theorem fdiv_int : bin3 .fdiv (.int i) (.int j) M Q = (DivOk j ∧ Q (.int (i / j)) M) := rfl
theorem mod_int : bin3 .mod (.int i) (.int j) M Q = (0 < j ∧ Q (.int (i % j)) M) := rfl
theorem pow_int : bin3 .pow (.int i) (.int j) M Q = (CPow i j ∧ Q (.int (i ^ j.toNat)) M) := rfl
theorem shl_int : bin3 .shl (.int i) (.int j) M Q = (CPow i j ∧ Q (.int (i * 2 ^ j.toNat)) M) := rfl
theorem aadd_int : aug3 .add (.int i) (.int j) M Q = Q (.int (i + j)) M := rfl
theorem asub_int : aug3 .sub (.int i) (.int j) M Q = Q (.int (i - j)) M := rfl
theorem eq_int : cmp3 .eq (.int i) (.int j) M Q = Q (.bl (decide (i = j))) M := rfl
theorem ne_int : cmp3 .ne (.int i) (.int j) M Q = Q (.bl (!decide (i = j))) M := rfl
theorem lt_int : cmp3 .lt (.int i) (.int j) M Q = Q (.bl (decide (i < j))) M := rfl
theorem le_int : cmp3 .le (.int i) (.int j) M Q = Q (.bl (decide (i ≤ j))) M := rfl
theorem gt_int : cmp3 .gt (.int i) (.int j) M Q = Q (.bl (decide (j < i))) M := rfl
theorem ge_int : cmp3 .ge (.int i) (.int j) M Q = Q (.bl (decide (j ≤ i))) M := rfl
theorem isN_ : cmp3 .isN d .non M Q = Q (.bl (isNon d)) M := by cases d <;> rfl
theorem notN_ : cmp3 .notN d .non M Q = Q (.bl (!isNon d)) M := by cases d <;> rfl
theorem inn_ : cmp3 .inn d e M Q = in3 id d e M Q := by cases d <;> rfl
theorem nin_ : cmp3 .nin d e M Q = in3 not d e M Q := by cases d <;> rfl
theorem in3_tup {f : Bool → Bool} : in3 f d (.tup l) M Q = (flatD d = true ∧ l.all flatD = true ∧ Q (.bl (f (inF d l))) M) := rfl
theorem in3_ref {f : Bool → Bool} (h : M p = some (.lst l)) : in3 f d (.ref p) M Q = (flatD d = true ∧ l.all flatD = true ∧ Q (.bl (f (inF d l))) M) := by unfold in3; dsimp only; rw [h]
theorem in3_dic {f : Bool → Bool} {l : List (Key × D)} (h : M p = some (.dic l)) : in3 f (.int i) (.ref p) M Q = Q (.bl (f (getK l (.inl i)).isSome)) M := by unfold in3; dsimp only; rw [h]; rfl
theorem in3_dit {f : Bool → Bool} {t : List (List Key × D)} {ks : List Key} (h : M p = some (.dit t)) (hk : keysD l = some ks) : in3 f (.kt l) (.ref p) M Q = Q (.bl (f (getT t ks).isSome)) M := by
  unfold in3; dsimp only; rw [h]; dsimp only [keyT]; rw [hk]
theorem isNon_int : isNon (.int i) = false := rfl
theorem isNon_non : isNon .non = true := rfl
theorem isNon_tup : isNon (.tup l) = false := rfl
theorem isNon_ref : isNon (.ref p) = false := rfl
theorem isB3_bl {k : Bool} {R : Bool → Mp → Prop} : isB3 (.bl k) M R = R k M := rfl
theorem isI_int {f : Int → Prop} : isI (.int i) f = f i := rfl
theorem one_ {f : D → Prop} : one [d] f = f d := rfl
theorem two_ {f : D → D → Prop} : two [d, e] f = f d e := rfl
theorem tru_bl {k : Bool} {R : Bool → Mp → Prop} : tru3 (.bl k) M R = R k M := rfl
theorem tru_int {R : Bool → Mp → Prop} : tru3 (.int i) M R = R (i != 0) M := rfl
theorem tru_non {R : Bool → Mp → Prop} : tru3 .non M R = R false M := rfl
theorem tru_tup {R : Bool → Mp → Prop} : tru3 (.tup l) M R = R (!l.isEmpty) M := rfl
theorem tru_ref {R : Bool → Mp → Prop} (h : M p = some (.lst l)) : tru3 (.ref p) M R = R (!l.isEmpty) M := by unfold tru3; dsimp only; rw [h]
theorem int3_int : int3 (.int i) M Q = Q (.int i) M := rfl
theorem int3_bl {k : Bool} : int3 (.bl k) M Q = Q (.int (if k then 1 else 0)) M := rfl
theorem listAt_ref (h : M p = some (.lst l)) : listAt (.ref p) M = some l := getL_of h
theorem seqAt_ref (h : M p = some (.lst l)) : seqAt (.ref p) M = some l := getL_of h
theorem seqAt_tup : seqAt (.tup l) M = some l := rfl
theorem listAt_cl : listAt (.cl l) M = some l := rfl
theorem list3_ref (h : M p = some (.lst l)) : list3 (.ref p) M Q = newL l M Q := by unfold list3; dsimp only; rw [h]
theorem list3_dic {l : List (Key × D)} (h : M p = some (.dic l)) : list3 (.ref p) M Q = newL (l.map fun kv => keyV kv.1) M Q := by unfold list3; dsimp only; rw [h]
theorem list3_tup : list3 (.tup l) M Q = newL l M Q := rfl
theorem sl3_tup {lo hi : Option Int} : sl3 (.tup l) lo hi M Q = Q (.tup (cutD l lo hi)) M := rfl
theorem sl3_cl {lo hi : Option Int} : sl3 (.cl l) lo hi M Q = newL (cutD l lo hi) M Q := rfl
theorem sl3_ref {lo hi : Option Int} (h : M p = some (.lst l)) : sl3 (.ref p) lo hi M Q = newL (cutD l lo hi) M Q := by unfold sl3; dsimp only; rw [getL_of h]
theorem rev3_ref (h : M p = some (.lst l)) : rev3 (.ref p) M Q = newL l.reverse M Q := by unfold rev3; dsimp only; rw [getL_of h]
theorem rev3_tup : rev3 (.tup l) M Q = Q (.tup l.reverse) M := rfl
theorem neg3_int : neg3 (.int i) M Q = Q (.int (-i)) M := rfl
theorem refL_ref {f : PySem.Addr → List D → Prop} (h : M p = some (.lst l)) : refL (.ref p) M f = f p l := by unfold refL; dsimp only; rw [h]
theorem refD_ref {l : List (Key × D)} {f : PySem.Addr → List (Key × D) → Prop} (h : M p = some (.dic l)) : refD (.ref p) M f = f p l := by unfold refD; dsimp only; rw [h]
theorem isTyM_ref {T : String} (h : M p = some (.lst l)) : isTyM T (.ref p) M = (T = "list") := by unfold isTyM; dsimp only; rw [h]
theorem isTyM_dic {T : String} {l : List (Key × D)} (h : M p = some (.dic l)) : isTyM T (.ref p) M = (T = "dict") := by unfold isTyM; dsimp only; rw [h]
theorem seqI_tup {R : List D → (Mp → Prop) → Mp → Prop} : seqI (.tup l) M R = R l (fun _ => True) M := rfl
theorem seqI_cl {R : List D → (Mp → Prop) → Mp → Prop} : seqI (.cl l) M R = R l (fun _ => True) M := rfl
theorem seqI_ref {R : List D → (Mp → Prop) → Mp → Prop} (h : M p = some (.lst l)) : seqI (.ref p) M R = R l (fun M' => M' p = some (.lst l)) M := by unfold seqI; dsimp only; rw [h]
theorem enum3_ref {R : List D → (Mp → Prop) → Mp → Prop} (h : M p = some (.lst l)) : enum3 (.ref p) M R = R (enumD l) (fun M' => M' p = some (.lst l)) M := by unfold enum3; rw [seqI_ref h]
theorem enum3_tup {R : List D → (Mp → Prop) → Mp → Prop} : enum3 (.tup l) M R = R (enumD l) (fun _ => True) M := rfl
theorem enum3_cl {R : List D → (Mp → Prop) → Mp → Prop} : enum3 (.cl l) M R = R (enumD l) (fun _ => True) M := rfl
theorem zip3_tup {R : List D → (Mp → Prop) → Mp → Prop} : zip3 (.tup l) (.tup m) M R = R (zipD l m) (fun _ => True) M := rfl
theorem zip3_ref {R : List D → (Mp → Prop) → Mp → Prop} (h : M p = some (.lst l)) (h' : M q = some (.lst m)) : zip3 (.ref p) (.ref q) M R = R (zipD l m) (fun M' => M' p = some (.lst l) ∧ M' q = some (.lst m)) M := by
  show seqI (.ref p) M (fun ds keep M3 => seqI (.ref q) M3 fun es keep' M4 => R (zipD ds es) (fun M => keep M ∧ keep' M) M4) = _
  rw [seqI_ref h, seqI_ref h']
theorem set3_ref {x : D} {R : Mp → Prop} (h : M p = some (.lst l)) : set3 (.ref p) (.int i) x M R = some3 (ixN l.length i) fun k => R (put M p (.lst (l.set k x))) := by unfold set3; dsimp only; rw [h]; rfl
theorem set3_dic {x : D} {l : List (Key × D)} {R : Mp → Prop} (h : M p = some (.dic l)) : set3 (.ref p) (.int i) x M R = (l.length < PySem.sizeLine ∧ R (put M p (.dic (putD l (.inl i) x)))) := by unfold set3; dsimp only; rw [h]; rfl
theorem set3_dit {x : D} {t : List (List Key × D)} {ks : List Key} {R : Mp → Prop} (h : M p = some (.dit t)) (hk : keysD l = some ks) : set3 (.ref p) (.kt l) x M R = (t.length < PySem.sizeLine ∧ R (put M p (.dit (putT t ks x)))) := by
  unfold set3; dsimp only; rw [h]; dsimp only [keyT]; rw [hk]; rfl
theorem ixN_in {n : Nat} {i : Int} (h0 : 0 ≤ i) (h1 : i < n) : ixN n i = some i.toNat := by unfold ixN; rw [if_pos h0, if_pos h1]
theorem chain_t {tc : TE3} {r : R23} {τ : S3} : chain3 tc r e τ (.bl true) M Q = tc τ M fun f M4 => r e f M4 Q := rfl
theorem chain_f {tc : TE3} {r : R23} {τ : S3} : chain3 tc r e τ (.bl false) M Q = Q (.bl false) M := rfl
/-! heaps -/
theorem ne_of_put {o o' : MO} (h : M p = some o) (h' : M q = none) : p ≠ q := fun z => by subst z; rw [h] at h'; cases h'
theorem put_keep {o o' : MO} (h : M p = some o) (h' : M q = none) : put M q o' p = some o := by rw [put_ne (ne_of_put (o' := o) h h')]; exact h
theorem put_free {o : MO} (h : put M q o p = none) : M p = none ∧ p ≠ q := by
  by_cases e : p = q
  · subst e; rw [put_same] at h; cases h
  · rw [put_ne e] at h; exact ⟨h, e⟩
theorem put_put {o o' : MO} : put (put M p o) p o' = put M p o' := by
  funext b; unfold put; split <;> rfl
theorem put_comm {o o' : MO} (h : p ≠ q) : put (put M p o) q o' = put (put M q o') p o := by
  funext b
  by_cases h1 : b = p
  · subst h1; rw [put_ne h, put_same, put_same]
  · by_cases h2 : b = q
    · subst h2; rw [put_same, put_ne h1, put_same]
    · rw [put_ne h2, put_ne h1, put_ne h1, put_ne h2]
theorem put_self {o : MO} (h : M p = some o) : put M p o = M := by
  funext b
  by_cases h1 : b = p
  · subst h1; rw [put_same, h]
  · rw [put_ne h1]
theorem wk_new {P : Mp → Prop} {o : MO} (h : M p = none) (q : P M) : wk P (put M p o) := ⟨M, .new h, q⟩
theorem wk_sub {P : Mp → Prop} {M' : Mp} (h : Sub M M') (q : P M) : wk P M' := ⟨M, h, q⟩
/-! ### comprehensions whose items are reckoned apart -/
theorem lc_pure {ds : List D} {keep : Mp → Prop} {tn : Tn} {vs : List Nat} {tt : TT3} {te : TE3} {τ : S3} {M1 : Mp} {Q : K3} (f : Nat → D → Option D)
    (hk : ∀ M, Sub M1 M → keep M)
    (hf : ∀ i d, ds[i]? = some d → ∀ M, Sub M1 M → ∀ (Qe : K3) (Qn : Mp → Prop), (∀ y, f i d = some y → ∀ M4, Sub M M4 → Qe y M4) → (f i d = none → ∀ M4, Sub M M4 → Qn M4) →
      wpG tn d M (wipe3 τ vs) fun τ2 => tt τ2 M fun b M3 => if b = true then te τ2 M3 Qe else Qn M3)
    (hl : ds.length < PySem.sizeLine)
    (hQ : newL ((ds.mapIdx f).filterMap id) M1 Q) : lcW ds keep tn vs tt te τ M1 Q := by
  intro p hp
  refine ⟨fun i acc M => acc = ((ds.take i).mapIdx f).filterMap id ∧ M = put M1 p (.lst acc), ⟨rfl, rfl⟩, ?_⟩
  rintro i acc M ⟨rfl, rfl⟩ hi
  have hs : Sub M1 (put M1 p (.lst (((ds.take i).mapIdx f).filterMap id))) := .new hp
  have hlen : (((ds.take i).mapIdx f).filterMap id).length ≤ ds.length := by
    refine Nat.le_trans (List.length_filterMap_le _ _) ?_
    rw [List.length_mapIdx, List.length_take]; omega
  refine ⟨hk _ hs, put_same, fun d hd => ?_, fun e => ?_⟩
  · have hstep : (ds.take (i + 1)) = ds.take i ++ [d] := by
      rw [List.take_add_one, hd]; rfl
    have hlt : (ds.take i).length = i := by rw [List.length_take]; have := (List.getElem?_eq_some_iff.mp hd).1; omega
    have hnext : ((ds.take (i + 1)).mapIdx f).filterMap id = ((ds.take i).mapIdx f).filterMap id ++ (f i d).toList := by
      rw [hstep, List.mapIdx_append, List.filterMap_append]
      simp only [List.mapIdx_cons, List.mapIdx_nil, Nat.zero_add, hlt]
      cases h : f i d <;> simp [h]
    refine hf i d hd _ hs _ _ (fun y hy M4 sb => ?_) fun hn M4 sb => ?_
    · refine ⟨Nat.lt_of_le_of_lt hlen hl, sb _ _ put_same, put M1 p _, ((hs.trans sb).put p _), ?_, rfl⟩
      rw [hnext, hy]; rfl
    · refine ⟨put M1 p _, sb, ?_, rfl⟩
      rw [hnext, hn]; simp
  · subst e
    rw [List.take_length]
    exact .of (hQ p hp)
theorem lc_map {ds : List D} {keep : Mp → Prop} {tn : Tn} {vs : List Nat} {te : TE3} {τ : S3} {M1 : Mp} {Q : K3} (f : Nat → D → D)
    (hk : ∀ M, Sub M1 M → keep M)
    (hf : ∀ i d, ds[i]? = some d → ∀ M, Sub M1 M → ∀ (Qe : K3), (∀ M4, Sub M M4 → Qe (f i d) M4) → wpG tn d M (wipe3 τ vs) fun τ2 => te τ2 M Qe)
    (hl : ds.length < PySem.sizeLine)
    (hQ : newL (ds.mapIdx f) M1 Q) : lcW ds keep tn vs (wpTO .no) te τ M1 Q := by
  refine lc_pure (fun i d => some (f i d)) hk (fun i d hd M sb Qe Qn h1 h2 => ?_) hl ?_
  · exact hf i d hd M sb _ fun M4 sb4 => h1 _ rfl M4 sb4
  · have e : (ds.mapIdx fun i d => some (f i d)).filterMap id = ds.mapIdx f := by
      clear hQ hf hk hl
      induction ds generalizing f with
      | nil => rfl
      | cons d ds ih => rw [List.mapIdx_cons, List.mapIdx_cons, List.filterMap_cons]; simp only [id]; rw [ih fun i => f (i + 1)]
    rw [e]; exact hQ
theorem filterMap_idx {α β : Type} (f : α → Option β) : ∀ (l : List α), (l.mapIdx fun _ a => f a).filterMap id = l.filterMap f
  | [] => rfl
  | a :: l => by
    rw [List.mapIdx_cons, List.filterMap_cons, List.filterMap_cons]
    have ih := filterMap_idx f l
    simp only [id] at ih ⊢
    cases h : f a <;> simp [ih]
/-- [e for x in xs if t], the items drawn from a plain list -/
theorem lc_fm {α : Type} (g : α → D) (l : List α) (f : α → Option D) {keep : Mp → Prop} {tn : Tn} {vs : List Nat} {tt : TT3} {te : TE3} {τ : S3} {M1 : Mp} {Q : K3}
    (hk : ∀ M, Sub M1 M → keep M)
    (hf : ∀ a, a ∈ l → ∀ M, Sub M1 M → ∀ (Qe : K3) (Qn : Mp → Prop), (∀ y, f a = some y → ∀ M4, Sub M M4 → Qe y M4) → (f a = none → ∀ M4, Sub M M4 → Qn M4) →
      wpG tn (g a) M (wipe3 τ vs) fun τ2 => tt τ2 M fun b M3 => if b = true then te τ2 M3 Qe else Qn M3)
    (hl : l.length < PySem.sizeLine)
    (hQ : newL (l.filterMap f) M1 Q) : lcW (l.map g) keep tn vs tt te τ M1 Q := by
  have ga : ∀ i d, (l.map g)[i]? = some d → ∃ a, l[i]? = some a ∧ g a = d := fun i d h => by
    rw [List.getElem?_map] at h
    cases e : l[i]? with
    | none => rw [e] at h; cases h
    | some a => rw [e] at h; cases h; exact ⟨a, e, rfl⟩
  refine lc_pure (fun i _ => (l[i]?).bind f) hk (fun i d hd M sb Qe Qn h1 h2 => ?_) (by rw [List.length_map]; exact hl) ?_
  · obtain ⟨a, ea, rfl⟩ := ga i d hd
    rw [ea] at h1 h2
    exact hf a (List.mem_of_getElem? ea) M sb Qe Qn h1 h2
  · have e : ((l.map g).mapIdx fun i _ => (l[i]?).bind f) = l.mapIdx fun _ a => f a := by
      apply List.ext_getElem?
      intro i
      rw [List.getElem?_mapIdx, List.getElem?_mapIdx, List.getElem?_map]
      cases l[i]? <;> rfl
    rw [e, filterMap_idx]
    exact hQ
/-- [e for x in xs] -/
theorem lc_mp {α : Type} (g : α → D) (l : List α) (f : α → D) {keep : Mp → Prop} {tn : Tn} {vs : List Nat} {te : TE3} {τ : S3} {M1 : Mp} {Q : K3}
    (hk : ∀ M, Sub M1 M → keep M)
    (hf : ∀ a, a ∈ l → ∀ M, Sub M1 M → ∀ (Qe : K3), (∀ M4, Sub M M4 → Qe (f a) M4) → wpG tn (g a) M (wipe3 τ vs) fun τ2 => te τ2 M Qe)
    (hl : l.length < PySem.sizeLine)
    (hQ : newL (l.map f) M1 Q) : lcW (l.map g) keep tn vs (fun _ M Q => Q true M) te τ M1 Q := by
  refine lc_fm g l (fun a => some (f a)) hk (fun a ha M sb Qe Qn h1 h2 => hf a ha M sb _ fun M4 sb4 => h1 _ rfl M4 sb4) hl ?_
  have e : l.filterMap (fun a => some (f a)) = l.map f := by
    clear hQ hf hl
    induction l with
    | nil => rfl
    | cons a l ih => rw [List.filterMap_cons, List.map_cons]; simp only []; rw [ih]
  rw [e]; exact hQ
theorem enumD_map {α : Type} (g : α → D) (l : List α) : enumD (l.map g) = l.zipIdx.map fun p => .tup [.int (p.2 : Nat), g p.1] := by
  unfold enumD
  apply List.ext_getElem?
  intro i
  rw [List.getElem?_mapIdx, List.getElem?_map, List.getElem?_map, List.getElem?_zipIdx]
  cases l[i]? with
  | none => rfl
  | some a => simp
theorem zipD_map {α β : Type} (g : α → D) (h : β → D) (l : List α) (m : List β) : zipD (l.map g) (m.map h) = (l.zip m).map fun p => .tup [g p.1, h p.2] := by
  unfold zipD
  rw [List.zip_map, List.map_map]
  rfl
theorem zipD3_map {α β γ : Type} (g : α → D) (h : β → D) (f : γ → D) (l : List α) (m : List β) (n : List γ) : zipD3 (l.map g) (m.map h) (n.map f) = (l.zip (m.zip n)).map fun p => .tup [g p.1, h p.2.1, f p.2.2] := by
  unfold zipD3
  rw [show (m.map h).zip (n.map f) = (m.zip n).map (Prod.map h f) from List.zip_map, List.zip_map, List.map_map]
  rfl
end
end G3
/-- the short rules, in one -/
theorem G3.wl : type_of% (And.intro @G3.mul_tup (And.intro @G3.some3_some (And.intro @G3.some3_none (And.intro @G3.atI0 (And.intro @G3.atI1 (And.intro @G3.atI2 (And.intro @G3.atI3 (And.intro @G3.ix3_tup (And.intro @G3.ix3_cl (And.intro @G3.getR3_ref (And.intro @G3.len3_tup (And.intro @G3.len3_cl (And.intro @G3.add_int (And.intro @G3.add_tup (And.intro @G3.sub_int (And.intro @G3.mul_int (And.intro @G3.fdiv_int (And.intro @G3.mod_int (And.intro @G3.pow_int (And.intro @G3.shl_int (And.intro @G3.aadd_int (And.intro @G3.asub_int (And.intro @G3.eq_int (And.intro @G3.ne_int (And.intro @G3.lt_int (And.intro @G3.le_int (And.intro @G3.gt_int (And.intro @G3.ge_int (And.intro @G3.isN_ (And.intro @G3.notN_ (And.intro @G3.inn_ (And.intro @G3.nin_ (And.intro @G3.in3_tup (And.intro @G3.isNon_int (And.intro @G3.isNon_non (And.intro @G3.isNon_tup (And.intro @G3.isNon_ref (And.intro @G3.isB3_bl (And.intro @G3.isI_int (And.intro @G3.one_ (And.intro @G3.two_ (And.intro @G3.tru_bl (And.intro @G3.tru_int (And.intro @G3.tru_non (And.intro @G3.tru_tup (And.intro @G3.int3_int (And.intro @G3.int3_bl (And.intro @G3.seqAt_tup (And.intro @G3.listAt_cl (And.intro @G3.list3_tup (And.intro @G3.sl3_tup (And.intro @G3.sl3_cl (And.intro @G3.rev3_tup (And.intro @G3.neg3_int (And.intro @G3.seqI_tup (And.intro @G3.seqI_cl (And.intro @G3.zip3_tup (And.intro @G3.chain_t (And.intro @G3.chain_f (And.intro @Option.bind_some.{0, 0} (And.intro @List.map_cons.{0, 0} (And.intro @List.map_nil.{0, 0} (And.intro @List.length_cons.{0} (And.intro @List.length_nil.{0} (And.intro @List.length_map.{0, 0} (And.intro @List.length_replicate.{0} (And.intro @List.length_append.{0} (And.intro @List.cons_append.{0} (And.intro @List.nil_append.{0} (And.intro @List.append_nil.{0} (And.intro @Nat.sub_self (And.intro @List.getElem?_cons_zero.{0} (And.intro @List.getElem?_cons_succ.{0} (And.intro @List.set_cons_zero.{0} (And.intro @List.set_cons_succ.{0} (And.intro @Nat.zero_add (And.intro @Option.getD_some.{0} (And.intro @Bool.not_true (And.intro @Bool.not_false (And.intro @if_true.{1} (And.intro @if_false.{1} (And.intro @ite_true.{1} (And.intro @ite_false.{1} (And.intro @Bool.false_eq_true (And.intro @decide_eq_true_eq (And.intro @true_and @and_true)))))))))))))))))))))))))))))))))))))))))))))))))))))))))))))))))))))))))))))))))))))) := And.intro @G3.mul_tup (And.intro @G3.some3_some (And.intro @G3.some3_none (And.intro @G3.atI0 (And.intro @G3.atI1 (And.intro @G3.atI2 (And.intro @G3.atI3 (And.intro @G3.ix3_tup (And.intro @G3.ix3_cl (And.intro @G3.getR3_ref (And.intro @G3.len3_tup (And.intro @G3.len3_cl (And.intro @G3.add_int (And.intro @G3.add_tup (And.intro @G3.sub_int (And.intro @G3.mul_int (And.intro @G3.fdiv_int (And.intro @G3.mod_int (And.intro @G3.pow_int (And.intro @G3.shl_int (And.intro @G3.aadd_int (And.intro @G3.asub_int (And.intro @G3.eq_int (And.intro @G3.ne_int (And.intro @G3.lt_int (And.intro @G3.le_int (And.intro @G3.gt_int (And.intro @G3.ge_int (And.intro @G3.isN_ (And.intro @G3.notN_ (And.intro @G3.inn_ (And.intro @G3.nin_ (And.intro @G3.in3_tup (And.intro @G3.isNon_int (And.intro @G3.isNon_non (And.intro @G3.isNon_tup (And.intro @G3.isNon_ref (And.intro @G3.isB3_bl (And.intro @G3.isI_int (And.intro @G3.one_ (And.intro @G3.two_ (And.intro @G3.tru_bl (And.intro @G3.tru_int (And.intro @G3.tru_non (And.intro @G3.tru_tup (And.intro @G3.int3_int (And.intro @G3.int3_bl (And.intro @G3.seqAt_tup (And.intro @G3.listAt_cl (And.intro @G3.list3_tup (And.intro @G3.sl3_tup (And.intro @G3.sl3_cl (And.intro @G3.rev3_tup (And.intro @G3.neg3_int (And.intro @G3.seqI_tup (And.intro @G3.seqI_cl (And.intro @G3.zip3_tup (And.intro @G3.chain_t (And.intro @G3.chain_f (And.intro @Option.bind_some.{0, 0} (And.intro @List.map_cons.{0, 0} (And.intro @List.map_nil.{0, 0} (And.intro @List.length_cons.{0} (And.intro @List.length_nil.{0} (And.intro @List.length_map.{0, 0} (And.intro @List.length_replicate.{0} (And.intro @List.length_append.{0} (And.intro @List.cons_append.{0} (And.intro @List.nil_append.{0} (And.intro @List.append_nil.{0} (And.intro @Nat.sub_self (And.intro @List.getElem?_cons_zero.{0} (And.intro @List.getElem?_cons_succ.{0} (And.intro @List.set_cons_zero.{0} (And.intro @List.set_cons_succ.{0} (And.intro @Nat.zero_add (And.intro @Option.getD_some.{0} (And.intro @Bool.not_true (And.intro @Bool.not_false (And.intro @if_true.{1} (And.intro @if_false.{1} (And.intro @ite_true.{1} (And.intro @ite_false.{1} (And.intro @Bool.false_eq_true (And.intro @decide_eq_true_eq (And.intro @true_and @and_true)))))))))))))))))))))))))))))))))))))))))))))))))))))))))))))))))))))))))))))))))))))
set_option Elab.async false
set_option linter.all false
set_option maxRecDepth 100000
set_option maxHeartbeats 16000000
/-! the end: facts by names, of imported names too -/
namespace G3
open PySem PySem.Spec PyProof.Rows L2
/-- what the module's name stands for: a built-in that an import brought -/
def imB (K : PySem.W.Frag) (p : Str × String) : Bool := He.eqO (PySem.W.nsIn K mainGlobals p.1) (some (some (.builtin p.2)))
/-- a module's own number, or tuple of numbers -/
def intsB (ns : List Int) (vs : List Value) : Bool := match ns, vs with
  | [], [] => true
  | i :: r, .int j _ :: s => decide (i = j) && intsB r s
  | _, _ => false
theorem intsB_ok : ∀ {ns : List Int} {vs : List Value}, intsB ns vs = true → Vals (ns.map V.int) vs
  | [], [], _ => .nil
  | i :: r, .int j t :: s, h => by
    unfold intsB at h
    rw [Bool.and_eq_true, decide_eq_true_eq] at h
    exact .cons ⟨t, by rw [h.1]⟩ (intsB_ok h.2)
  | _ :: _, [], h => by cases h
  | [], _ :: _, h => by cases h
  | _ :: _, .none :: _, h | _ :: _, .bool _ :: _, h | _ :: _, .str _ _ :: _, h | _ :: _, .ref _ :: _, h => by cases h
def cnB (K : PySem.W.Frag) (p : Str × GV) : Bool := match p.2, PySem.W.nsIn K mainGlobals p.1 with
  | .int i, some (some (.int j _)) => decide (i = j)
  | .tup ns, some (some (.ref a)) => (match K.lookup a with
    | some ⟨.type "tuple", _, .seq its _, _⟩ => decide (its.size ≤ sizeLine) && intsB ns its.toList
    | _ => false)
  | _, _ => false
theorem cn_ok {K : PySem.W.Frag} {h : Heap} {mg : Str → Option Value} (X : K.In h) (G : h.Ns mainGlobals mg) {p : Str × GV} (e : cnB K p = true) : ∃ v u, mg p.1 = some u ∧ RelV v u ∧ ∀ H, Rep K H v p.2.d := by
  obtain ⟨x, g⟩ := p
  unfold cnB at e
  dsimp only at e
  split at e
  · rename_i i j t hn
    cases of_decide_eq_true e
    exact ⟨.int i, _, PySem.W.mg_of X G hn, ⟨t, rfl⟩, fun H => .int i⟩
  · rename_i ns a hn
    split at e
    · rename_i d its n sl hl
      rw [Bool.and_eq_true, decide_eq_true_eq] at e
      exact ⟨.ref a, _, PySem.W.mg_of X G hn, rfl, fun H => .tup (.inr ⟨_, its, n, hl, rfl, rfl, e.1, intsB_ok e.2⟩) (Reps.of_ints ns)⟩
    · cases e
  · cases e
abbrev AlI : Type := He.AlD × Bool
def obsI (n : Nat) (fa : List He.Fa) (im : List (Str × String)) (cn : List (Str × GV)) (fn : List He.DefD) (g : Addr → Option Obj) : AlI := (He.obsDG n fa fn g, im.all (imB (He.frG g (He.asD g n))) && cn.all (cnB (He.frG g (He.asD g n))))
def SaysI (fa : List He.Fa) (im : List (Str × String)) (cn : List (Str × GV)) (fn : List He.DefD) (K : PySem.W.Frag) : Prop := He.SaysD fa fn K ∧ (im.all (imB K) && cn.all (cnB K)) = true
def hookI (n : Nat) (fa : List He.Fa) (im : List (Str × String)) (cn : List (Str × GV)) (fn : List He.DefD) : PySem.W.Hook where
  α := AlI
  obs := fun s => obsI n fa im cn fn s.heap.get?
  val := fun _ => (He.valD fn, true)
  says := fun _ h => ∃ K : PySem.W.Frag, K.In h ∧ SaysI fa im cn fn K
  of := fun _ _ e => ⟨_, He.frG_in, congrArg (fun z : AlI => z.1) e, congrArg (fun z : AlI => z.2) e⟩
  keeps := fun _ _ _ ⟨K, hK, c⟩ k => ⟨K, PySem.W.Frag.In.keeps hK k, c⟩
theorem obsI_eq {n : Nat} {fa : List He.Fa} {im : List (Str × String)} {cn : List (Str × GV)} {fn : List He.DefD} {g : Addr → Option Obj} {s : Shared} (h : ∀ a, g a = s.heap.get? a) : obsI n fa im cn fn g = (hookI n fa im cn fn).obs s := by
  have e : g = s.heap.get? := funext h
  rw [e] <;> rfl
section
variable {fa : List He.Fa} {im : List (Str × String)} {cn : List (Str × GV)} {fn : List He.DefD} {K : PySem.W.Frag} {h : Heap} {mg : Str → Option Value}
theorem factAll (c : SaysI fa im cn fn K) {f : He.Fa} (hf : f ∈ fa) : f.ok K = true := by
  have c1 := (He.ba (show ((fa.all fun f => f.ok K) && fn.all fun d => d.ok K) = true from congrArg (fun z : He.AlD => z.1) c.1)).1
  exact List.all_eq_true.mp c1 f hf
theorem free_all (X : K.In h) (G : h.Ns mainGlobals mg) (c : SaysI fa im cn fn K) {bl : List Str} (hb : ∀ x ∈ bl, He.Fa.free x ∈ fa) : ∀ x ∈ bl, mg x = none := fun x hx => He.free_ok X G (factAll c (hb x hx))
theorem im_all (X : K.In h) (G : h.Ns mainGlobals mg) (c : SaysI fa im cn fn K) : ∀ p ∈ im, mg p.1 = some (.builtin p.2) := fun p hp => PySem.W.mg_of X G (He.eqO_ok (List.all_eq_true.mp (Bool.and_eq_true_iff.mp c.2).1 p hp))
theorem cn_all (X : K.In h) (G : h.Ns mainGlobals mg) (c : SaysI fa im cn fn K) : ∀ p ∈ cn, ∃ v u, mg p.1 = some u ∧ RelV v u ∧ ∀ H, Rep K H v p.2.d := fun p hp => cn_ok X G (List.all_eq_true.mp (Bool.and_eq_true_iff.mp c.2).2 p hp)
theorem glo_at (X : K.In h) (G : h.Ns mainGlobals mg) (c : SaysI fa im cn fn K) {x : Str} (hx : He.Fa.glo x ∈ fa) : mg x = some (.ref (He.ga K x)) := He.glo_ok X G (factAll c hx)
end
def GoodL (good : String → Sp3 → Prop) : List (String × Sp3) → Prop
  | [] => True
  | p :: l => good p.1 p.2 ∧ GoodL good l
theorem GoodL.all {good : String → Sp3 → Prop} : ∀ {l : List (String × Sp3)}, GoodL good l → ∀ p ∈ l, good p.1 p.2
  | p :: l, ⟨h, t⟩, q, hq => by
    rcases List.mem_cons.mp hq with rfl | hq
    · exact h
    · exact GoodL.all t q hq
theorem good_no {P : Program} {w : World} {K : PySem.W.Frag} {mg : Str → Option Value} {base : Heap} {qual : Str} {params : Arguments} {bodyS : List Stmt} {scope : Scope} {kws : List (Str × V)} {f : Addr} {fd : FuncData} {ps : List Str} {nm : Str} {x : String}
    (F : FunD K nm qual params bodyS scope [] kws f fd) (hm : mg (Str.ofString x) = some (.ref f)) (hb : Binds K fd ps []) (sp : Sp3) (hn : ∀ ds M Q, ¬ sp ds M Q) : GoodG P w K mg base 0 x sp :=
  ⟨f, fd, ps, 0, Nat.le_refl _, ⟨fun _ _ _ _ ⟨_, _, _, _, _, h, _⟩ => (hn _ _ _ h).elim, fun _ _ _ _ _ _ _ _ _ _ _ _ _ ⟨_, _, _, _, _, h, _⟩ => (hn _ _ _ h).elim⟩, hm, F.kp, hb⟩
/-- a law's script, as it comes -/
theorem law_in {K : PySem.W.Frag} {H : Hp} {a : Addr} {ns : List Int} {sp : Sp3} (hO : Only H) (hS : SqL K H a (ns.map V.int)) (h : sp [.cl (ns.map .int)] (fun _ => none) fun d _ => d = .bl true) (E : XK) :
    liftSp K sp [.ref a] H (fun v _ => v = .bl true) E := by
  refine ⟨_, _, _, fun a o e => (by cases e), .cons (.cl ?_ (Reps.of_ints ns)) .nil, h, fun v H' d M' q _ _ r => ?_⟩
  · rcases hS with (hS | hS) | hS
    · rcases hO a with e | ⟨o, xs, e⟩
      · rw [e] at hS; cases hS
      · rw [e] at hS; cases hS
    · exact .inl hS
    · exact .inr hS
  · subst q
    cases r; rfl
end G3
set_option Elab.async false
set_option linter.all false
set_option maxRecDepth 100000
set_option maxHeartbeats 0
namespace K83
open PySem PySem.Spec PyProof.Rows L2 G3
def top (i : Nat) : Stmt := PySem.Challenge.pw_gristbytides_k83_cheapest_readings.main.body.getD i (.Pass ⟨0, 0, 0, 0⟩)
def bl : List Str := ["len", "abs", "int", "max", "min", "sum", "sorted", "list", "tuple", "isinstance", "range", "enumerate", "bool", "str"]
def im : List (Str × String) := [("gcd", "math.gcd"), ("lcm", "math.lcm")]
def cn : List (Str × GV) := []
def d_linked_marks : He.DefD := ⟨("linked_marks", none), "linked_marks", "linked_marks", defArgs (top 2), defBody (top 2), defScope (top 2), [], []⟩
def d_height_chain : He.DefD := ⟨("height_chain", none), "height_chain", "height_chain", defArgs (top 3), defBody (top 3), defScope (top 3), [], []⟩
def d_joined_rests : He.DefD := ⟨("joined_rests", none), "joined_rests", "joined_rests", defArgs (top 4), defBody (top 4), defScope (top 4), [], []⟩
def d_count_parts : He.DefD := ⟨("count_parts", none), "count_parts", "count_parts", defArgs (top 6), defBody (top 6), defScope (top 6), [], []⟩
def d_does_tell_all : He.DefD := ⟨("does_tell_all", none), "does_tell_all", "does_tell_all", defArgs (top 7), defBody (top 7), defScope (top 7), [], []⟩
def d_cheapest_reading : He.DefD := ⟨("cheapest_reading", none), "cheapest_reading", "cheapest_reading", defArgs (top 8), defBody (top 8), defScope (top 8), [], []⟩
def d_reading_cost : He.DefD := ⟨("reading_cost", none), "reading_cost", "reading_cost", defArgs (top 9), defBody (top 9), defScope (top 9), [], []⟩
def d_first_gap : He.DefD := ⟨("first_gap", none), "first_gap", "first_gap", defArgs (top 10), defBody (top 10), defScope (top 10), [], []⟩
def d__law_draws : He.DefD := ⟨("_law_draws", none), "_law_draws", "_law_draws", defArgs (top 12), defBody (top 12), defScope (top 12), [], []⟩
def d__law_take : He.DefD := ⟨("_law_take", none), "_law_take", "_law_take", defArgs (top 13), defBody (top 13), defScope (top 13), [], []⟩
def d__law_pick : He.DefD := ⟨("_law_pick", none), "_law_pick", "_law_pick", defArgs (top 14), defBody (top 14), defScope (top 14), [], []⟩
def d__law_same : He.DefD := ⟨("_law_same", none), "_law_same", "_law_same", defArgs (top 15), defBody (top 15), defScope (top 15), [], []⟩
def d__law_shuffled : He.DefD := ⟨("_law_shuffled", none), "_law_shuffled", "_law_shuffled", defArgs (top 16), defBody (top 16), defScope (top 16), [], []⟩
def d__law_gcd : He.DefD := ⟨("_law_gcd", none), "_law_gcd", "_law_gcd", defArgs (top 17), defBody (top 17), defScope (top 17), [], []⟩
def d__law_tide_period : He.DefD := ⟨("_law_tide_period", none), "_law_tide_period", "_law_tide_period", defArgs (top 18), defBody (top 18), defScope (top 18), [], []⟩
def d__law_tide_hour : He.DefD := ⟨("_law_tide_hour", none), "_law_tide_hour", "_law_tide_hour", defArgs (top 19), defBody (top 19), defScope (top 19), [], []⟩
def d__law_tide_parts : He.DefD := ⟨("_law_tide_parts", none), "_law_tide_parts", "_law_tide_parts", defArgs (top 20), defBody (top 20), defScope (top 20), [], []⟩
def d__law_edge_places : He.DefD := ⟨("_law_edge_places", none), "_law_edge_places", "_law_edge_places", defArgs (top 21), defBody (top 21), defScope (top 21), [], []⟩
def d__law_joined_parts : He.DefD := ⟨("_law_joined_parts", none), "_law_joined_parts", "_law_joined_parts", defArgs (top 22), defBody (top 22), defScope (top 22), [], []⟩
def d__law_tells_all : He.DefD := ⟨("_law_tells_all", none), "_law_tells_all", "_law_tells_all", defArgs (top 23), defBody (top 23), defScope (top 23), [], []⟩
def d__law_cheapest : He.DefD := ⟨("_law_cheapest", none), "_law_cheapest", "_law_cheapest", defArgs (top 24), defBody (top 24), defScope (top 24), [], []⟩
def d__law_gap : He.DefD := ⟨("_law_gap", none), "_law_gap", "_law_gap", defArgs (top 25), defBody (top 25), defScope (top 25), [], []⟩
def d__law_offers_are_right : He.DefD := ⟨("_law_offers_are_right", none), "_law_offers_are_right", "_law_offers_are_right", defArgs (top 26), defBody (top 26), defScope (top 26), [], []⟩
def d__law_cost : He.DefD := ⟨("_law_cost", none), "_law_cost", "_law_cost", defArgs (top 27), defBody (top 27), defScope (top 27), [], []⟩
def d_law : He.DefD := ⟨("law", none), "law", "law", defArgs (top 28), defBody (top 28), defScope (top 28), [], []⟩
def fn : List He.DefD := [d_linked_marks, d_height_chain, d_joined_rests, d_count_parts, d_does_tell_all, d_cheapest_reading, d_reading_cost, d_first_gap, d__law_draws, d__law_take, d__law_pick, d__law_same, d__law_shuffled, d__law_gcd, d__law_tide_period, d__law_tide_hour, d__law_tide_parts, d__law_edge_places, d__law_joined_parts, d__law_tells_all, d__law_cheapest, d__law_gap, d__law_offers_are_right, d__law_cost, d_law]
def names : List Str := [("linked_marks" : Str), ("height_chain" : Str), ("joined_rests" : Str), ("count_parts" : Str), ("does_tell_all" : Str), ("cheapest_reading" : Str), ("reading_cost" : Str), ("first_gap" : Str), ("_law_draws" : Str), ("_law_take" : Str), ("_law_pick" : Str), ("_law_same" : Str), ("_law_shuffled" : Str), ("_law_gcd" : Str), ("_law_tide_period" : Str), ("_law_tide_hour" : Str), ("_law_tide_parts" : Str), ("_law_edge_places" : Str), ("_law_joined_parts" : Str), ("_law_tells_all" : Str), ("_law_cheapest" : Str), ("_law_gap" : Str), ("_law_offers_are_right" : Str), ("_law_cost" : Str), ("law" : Str)]
def fa : List He.Fa := names.map .glo ++ bl.map .free
abbrev R : PySem.W.OpenRow := PySem.W.OpenLaw.row PySem.Challenge.rw_gristbytides_k83_cheapest_readings
def ob (s : PySem.W.SharedT) : AlI := obsI 4 fa im cn fn (HandSHeadRun.getT s)
theorem ob_eq (s : PySem.W.SharedT) : ob s = (hookI 4 fa im cn fn).obs s.abs := obsI_eq (HandSHeadRun.getT_eq s)
def loose : List Str := [("__name__" : Str), ("linked_marks" : Str), ("height_chain" : Str), ("joined_rests" : Str), ("count_parts" : Str), ("does_tell_all" : Str), ("cheapest_reading" : Str), ("reading_cost" : Str), ("first_gap" : Str), ("_law_draws" : Str), ("_law_take" : Str), ("_law_pick" : Str), ("_law_same" : Str), ("_law_shuffled" : Str), ("_law_gcd" : Str), ("_law_tide_period" : Str), ("_law_tide_hour" : Str), ("_law_tide_parts" : Str), ("_law_edge_places" : Str), ("_law_joined_parts" : Str), ("_law_tells_all" : Str), ("_law_cheapest" : Str), ("_law_gap" : Str), ("_law_offers_are_right" : Str), ("_law_cost" : Str)]
theorem run (w : World) : HandSHeadRun.RunEqI R (PySem.W.view R.prog [0, 28]) (hookI 4 fa im cn fn) ob 8000 loose w := by
  unfold HandSHeadRun.RunEqI
  kernel_rfl
end K83
set_option Elab.async false
set_option linter.all false
set_option maxRecDepth 100000
set_option maxHeartbeats 4000000
/-! the law's own helpers, alike in many laws -/
namespace G3w
open PySem PySem.Spec PyProof.Rows L2 G3
def n_height_at : List Str := ["wheels", "hour"]
def b_height_at : SL := (.cons (.ret (.bin .add (.ix (.ix (.v 0) (.c (.int 0))) (.bin .mod (.v 1) (.bi .len (.cons (.ix (.v 0) (.c (.int 0))) .nil)))) (.ix (.ix (.v 0) (.c (.int 1))) (.bin .mod (.v 1)
  (.bi .len (.cons (.ix (.v 0) (.c (.int 1))) .nil)))))) .nil)
def n_round_heights : List Str := ["wheels", "hour"]
def b_round_heights (sp_height_at : Sp3) : SL := (.cons (.ret (.lc [("hour", 1)] (.nm 1) (.rng1 (.bi .lcm (.cons (.bi .len (.cons (.ix (.v 0) (.c (.int 0))) .nil)) (.cons (.bi .len (.cons (.ix (.v 0)
  (.c (.int 1))) .nil)) .nil)))) .no (.call "height_at" sp_height_at (.cons (.v 0) (.cons (.v 1) .nil))))) .nil)
def n__law_draws : List Str := ["script", "many", "cells", "left", "draws", "k", "place", "cell", "mixed"]
def r2__law_draws : SL := (.cons (.ex (.me .reverse (.v 4) .nil)) (.cons (.ret (.v 4)) .nil))
def r1__law_draws : SL := (.cons (.set (.nm 3) (.bi .list (.cons (.v 2) .nil))) (.cons (.set (.nm 4) (.lst .nil)) (.cons (.for_ (.nm 5) (.rng1 (.v 1)) (.cons (.set (.nm 6) (.bin .mod (.bi .int (.cons
  (.v 5) .nil)) (.bi .len (.cons (.v 2) .nil)))) (.cons (.ite (.and (.cons (.cmp .ge (.ix (.v 2) (.v 6)) (.bin .pow (.c (.int 10)) (.c (.int 18)))) (.cons (.cmp .gt (.ix (.v 3) (.v 6)) (.c (.int 0)))
  .nil))) (.cons (.ex (.me .append (.v 4) (.cons (.bin .mod (.bi .int (.cons (.ix (.v 3) (.v 6)) .nil)) (.c (.int 1000))) .nil))) (.cons (.setSub (.v 3) (.v 6) (.bin .fdiv (.ix (.v 3) (.v 6)) (.c
  (.int 1000)))) .nil)) (.cons (.set (.nm 8) (.bin .mod (.bi .int (.cons (.bin .add (.bin .add (.bin .mul (.ix (.v 2) (.v 6)) (.c (.int 48271))) (.bin .mul (.v 5) (.c (.int 69621)))) (.c (.int 11)))
  .nil)) (.c (.int 2147483647)))) (.cons (.ex (.me .append (.v 4) (.cons (.bin .mod (.bi .int (.cons (.bin .add (.bin .add (.bin .mul (.v 8) (.v 8)) (.bin .mul (.c (.int 3)) (.v 8))) (.v 5)) .nil))
  (.c (.int 1000003))) .nil))) .nil))) .nil))) (r2__law_draws))))
def b__law_draws : SL := (.cons (.set (.nm 2) (.lc [("cell", 7)] (.nm 7) (.seq (.sl (.v 0) .no (.ex (.c (.int 63))))) .no (.bin .mod (.bi .int (.cons (.v 7) .nil)) (.bin .shl (.c (.int 1)) (.c (.int
  7200)))))) (.cons (.ite (.cmp .eq (.bi .len (.cons (.v 2) .nil)) (.c (.int 0))) (.cons (.ex (.me .append (.v 2) (.cons (.c (.int 0)) .nil))) .nil) .nil) (r1__law_draws)))
def n__law_take : List Str := ["draws", "many"]
def r1__law_take : SL := (.cons (.ret (.bin .mod (.bi .int (.cons (.me .pop (.v 0) .nil) .nil)) (.v 1))) .nil)
def b__law_take : SL := (.cons (.ite (.cmp .eq (.bi .len (.cons (.v 0) .nil)) (.c (.int 0))) (.cons (.ret (.c (.int 0))) .nil) .nil) (r1__law_take))
def n__law_pick : List Str := ["draws", "row"]
def b__law_pick (sp__law_take : Sp3) : SL := (.cons (.ret (.ix (.v 1) (.call "_law_take" sp__law_take (.cons (.v 0) (.cons (.bi .len (.cons (.v 1) .nil)) .nil))))) .nil)
def n__law_same : List Str := ["actual", "due", "k"]
def r2__law_same (sp__law_same : Sp3) : SL := (.cons (.ret (.cmp .nin (.c (.bl false)) (.lc [("k", 2)] (.nm 2) (.rng1 (.bi .len (.cons (.v 1) .nil))) .no (.call "_law_same" sp__law_same (.cons (.ix
  (.v 0) (.v 2)) (.cons (.ix (.v 1) (.v 2)) .nil)))))) .nil)
def r1__law_same (sp__law_same : Sp3) : SL := (.cons (.ite (.cmp .ne (.bi .len (.cons (.v 0) .nil)) (.bi .len (.cons (.v 1) .nil))) (.cons (.ret (.c (.bl false))) .nil) .nil) (r2__law_same
  sp__law_same))
def r5__law_same (sp__law_same : Sp3) : SL := (.cons (.ret (.cmp .eq (.v 0) (.v 1))) .nil)
def r4__law_same (sp__law_same : Sp3) : SL := (.cons (.ite (.or (.cons (.cmp .ne (.isi (.v 0) ["str"]) (.isi (.v 1) ["str"])) (.cons (.cmp .ne (.cmp .isN (.v 0) (.c .non)) (.cmp .isN (.v 1) (.c
  .non))) .nil))) (.cons (.ret (.c (.bl false))) .nil) .nil) (r5__law_same sp__law_same))
def r3__law_same (sp__law_same : Sp3) : SL := (.cons (.ite (.or (.cons (.cmp .ne (.isi (.v 0) ["bool"]) (.isi (.v 1) ["bool"])) (.cons (.cmp .ne (.isi (.v 0) ["int"]) (.isi (.v 1) ["int"])) .nil)))
  (.cons (.ret (.c (.bl false))) .nil) .nil) (r4__law_same sp__law_same))
def b__law_same (sp__law_same : Sp3) : SL := (.cons (.ite (.isi (.v 1) ["tuple", "list"]) (.cons (.ite (.or (.cons (.cmp .ne (.isi (.v 0) ["tuple"]) (.isi (.v 1) ["tuple"])) (.cons (.cmp .ne (.isi (.v
  0) ["list"]) (.isi (.v 1) ["list"])) .nil))) (.cons (.ret (.c (.bl false))) .nil) .nil) (r1__law_same sp__law_same)) .nil) (r3__law_same sp__law_same))
def n__law_gcd : List Str := ["one", "other", "a", "b", "turn", "c"]
def r1__law_gcd : SL := (.cons (.set (.nm 5) (.bin .mod (.bi .int (.cons (.v 2) .nil)) (.v 3))) (.cons (.set (.nm 2) (.v 3)) (.cons (.set (.nm 3) (.v 5)) .nil)))
def r2__law_gcd : SL := (.cons (.ret (.v 2)) .nil)
def b__law_gcd : SL := (.cons (.set (.nm 2) (.bi .abs (.cons (.v 0) .nil))) (.cons (.set (.nm 3) (.bi .abs (.cons (.v 1) .nil))) (.cons (.for_ (.nm 4) (.rng1 (.c (.int 20000))) (.cons (.ite (.cmp .eq
  (.v 3) (.c (.int 0))) (.cons .brk .nil) .nil) (r1__law_gcd))) (r2__law_gcd))))
def n__law_tide_number : List Str := ["draws", "small"]
def r1__law_tide_number (sp__law_pick : Sp3) (sp__law_take : Sp3) : SL := (.cons (.ret (.bin .add (.v 1) (.bin .mul (.call "_law_pick" sp__law_pick (.cons (.v 0) (.cons (.lst (.cons (.c (.int
  1000003)) (.cons (.bin .add (.bin .pow (.c (.int 10)) (.c (.int 17))) (.c (.int 3))) (.cons (.bin .add (.bin .pow (.c (.int 10)) (.c (.int 40))) (.c (.int 121))) .nil)))) .nil))) (.bin .sub (.c
  (.int 1)) (.bin .mul (.c (.int 2)) (.call "_law_take" sp__law_take (.cons (.v 0) (.cons (.c (.int 2)) .nil)))))))) .nil)
def b__law_tide_number (sp__law_pick : Sp3) (sp__law_take : Sp3) : SL := (.cons (.set (.nm 1) (.bin .sub (.call "_law_take" sp__law_take (.cons (.v 0) (.cons (.c (.int 16)) .nil))) (.c (.int 6))))
  (.cons (.ite (.cmp .gt (.call "_law_take" sp__law_take (.cons (.v 0) (.cons (.c (.int 10)) .nil))) (.c (.int 0))) (.cons (.ret (.v 1)) .nil) .nil) (r1__law_tide_number sp__law_pick sp__law_take)))
def n__law_tide_period : List Str := ["draws"]
def r1__law_tide_period (sp__law_take : Sp3) : SL := (.cons (.ret (.bin .add (.c (.int 1)) (.call "_law_take" sp__law_take (.cons (.v 0) (.cons (.c (.int 6)) .nil))))) .nil)
def b__law_tide_period (sp__law_take : Sp3) : SL := (.cons (.ite (.cmp .eq (.call "_law_take" sp__law_take (.cons (.v 0) (.cons (.c (.int 8)) .nil))) (.c (.int 0))) (.cons (.ret (.bin .add (.c (.int
  1)) (.call "_law_take" sp__law_take (.cons (.v 0) (.cons (.c (.int 24)) .nil))))) .nil) .nil) (r1__law_tide_period sp__law_take))
def n__law_tide_hour : List Str := ["draws", "few"]
def r1__law_tide_hour (sp__law_take : Sp3) (sp__law_pick : Sp3) : SL := (.cons (.ret (.call "_law_take" sp__law_take (.cons (.v 0) (.cons (.v 1) .nil)))) .nil)
def b__law_tide_hour (sp__law_take : Sp3) (sp__law_pick : Sp3) : SL := (.cons (.ite (.cmp .eq (.call "_law_take" sp__law_take (.cons (.v 0) (.cons (.c (.int 7)) .nil))) (.c (.int 0))) (.cons (.ret
  (.bin .add (.call "_law_pick" sp__law_pick (.cons (.v 0) (.cons (.lst (.cons (.bin .pow (.c (.int 10)) (.c (.int 6))) (.cons (.bin .add (.bin .pow (.c (.int 10)) (.c (.int 18))) (.c (.int 9)))
  (.cons (.bin .add (.bin .pow (.c (.int 10)) (.c (.int 45))) (.c (.int 7))) .nil)))) .nil))) (.call "_law_take" sp__law_take (.cons (.v 0) (.cons (.c (.int 700)) .nil))))) .nil) .nil)
  (r1__law_tide_hour sp__law_take sp__law_pick))
def n__law_tide_wheels : List Str := ["draws", "p", "q", "first", "k"]
def b__law_tide_wheels (sp__law_tide_number : Sp3) : SL := (.cons (.set (.nm 3) (.bi .tuple (.cons (.lc [("k", 4)] (.nm 4) (.rng1 (.v 1)) .no (.call "_law_tide_number" sp__law_tide_number (.cons (.v
  0) .nil))) .nil))) (.cons (.ret (.tup (.cons (.v 3) (.cons (.bi .tuple (.cons (.lc [("k", 4)] (.nm 4) (.rng1 (.v 2)) .no (.call "_law_tide_number" sp__law_tide_number (.cons (.v 0) .nil))) .nil))
  .nil)))) .nil))
def n__law_tide_height : List Str := ["wheels", "hour"]
def b__law_tide_height : SL := (.cons (.ret (.bin .add (.ix (.ix (.v 0) (.c (.int 0))) (.bin .mod (.bi .int (.cons (.v 1) .nil)) (.bi .len (.cons (.ix (.v 0) (.c (.int 0))) .nil)))) (.ix (.ix (.v 0)
  (.c (.int 1))) (.bin .mod (.bi .int (.cons (.v 1) .nil)) (.bi .len (.cons (.ix (.v 0) (.c (.int 1))) .nil)))))) .nil)
def n__law_tide_round : List Str := ["wheels", "p", "q", "k"]
def b__law_tide_round (sp__law_gcd : Sp3) (sp__law_tide_height : Sp3) : SL := (.cons (.set (.nm 1) (.bi .len (.cons (.ix (.v 0) (.c (.int 0))) .nil))) (.cons (.set (.nm 2) (.bi .len (.cons (.ix (.v 0)
  (.c (.int 1))) .nil))) (.cons (.ret (.lc [("k", 3)] (.nm 3) (.rng1 (.bin .fdiv (.bin .mul (.v 1) (.v 2)) (.call "_law_gcd" sp__law_gcd (.cons (.v 1) (.cons (.v 2) .nil))))) .no (.call
  "_law_tide_height" sp__law_tide_height (.cons (.v 0) (.cons (.v 3) .nil))))) .nil)))
def n__law_low_wheels : List Str := ["draws", "p", "q", "first", "k"]
def b__law_low_wheels (sp__law_take : Sp3) : SL := (.cons (.set (.nm 3) (.bi .tuple (.cons (.lc [("k", 4)] (.nm 4) (.rng1 (.v 1)) .no (.call "_law_take" sp__law_take (.cons (.v 0) (.cons (.c (.int 3))
  .nil)))) .nil))) (.cons (.ret (.tup (.cons (.v 3) (.cons (.bi .tuple (.cons (.lc [("k", 4)] (.nm 4) (.rng1 (.v 2)) .no (.call "_law_take" sp__law_take (.cons (.v 0) (.cons (.c (.int 2)) .nil))))
  .nil)) .nil)))) .nil))
end G3w
namespace G3w
open G3 L2
abbrev K3 := G3.K3
abbrev Addr := PySem.Addr
theorem sline : PySem.sizeLine = 16777216 := PySem.sizeLine_eq
theorem newL_wk {l : List D} {M : Mp} {Q : K3} (h : newL l M Q) : newL l M fun d M' => wk (Q d) M' := fun p hp => .of (h p hp)
def encI (l : List Int) : D := .tup (l.map .int)
def whl (w0 w1 : List Int) : D := .tup [encI w0, encI w1]
def getW (l : List Int) (i : Int) : Int := getZ l (i % l.length)
def hgt (w0 w1 : List Int) (t : Int) : Int := getW w0 t + getW w1 t
def sp_height_at : Sp3 := fun ds M Q => ∃ w0 w1 t, ds = [whl w0 w1, .int t] ∧ w0 ≠ [] ∧ w1 ≠ [] ∧ Q (.int (hgt w0 w1 t)) M
theorem emod_in {t : Int} {l : List Int} (h : l ≠ []) : (0 : Int) < l.length ∧ 0 ≤ t % l.length ∧ t % l.length < l.length := by
  have : 0 < l.length := List.length_pos_iff.mpr h
  have h0 : (0 : Int) < l.length := by omega
  exact ⟨h0, Int.emod_nonneg _ (by omega), Int.emod_lt_of_pos _ h0⟩
theorem t_height_at : ∀ ds M Q, sp_height_at ds M Q → G3.wpSs b_height_at (rets Q) (st3 n_height_at.length ds) M := by
  rintro ds M Q ⟨w0, w1, t, rfl, h0, h1, q⟩
  obtain ⟨a1, a2, a3⟩ := emod_in (t := t) h0
  obtain ⟨b1, b2, b3⟩ := emod_in (t := t) h1
  simp only [n_height_at, b_height_at, whl, encI, G3.wpSs, G3.wpS, G3.wpE, G3.wpEL, G3.wpO, G3.wpTO, G3.wpT, G3.wpAnd, G3.wpOr, G3.wpAndT, G3.wpOrT, G3.wpI, G3.wpG, G3.wpGs, G3.wipe3, G3.GV.d, G3.st3, G3.bi3, G3.me3, G3.Me.ty, G3.rets, List.replicate, G3.wl, Nat.reduceAdd, Nat.reduceSub, reduceIte]
  rw [atI_ints a2 a3, atI_ints b2 b3]
  simp only [G3.wpSs, G3.wpS, G3.wpE, G3.wpEL, G3.wpO, G3.wpTO, G3.wpT, G3.wpAnd, G3.wpOr, G3.wpAndT, G3.wpOrT, G3.wpI, G3.wpG, G3.wpGs, G3.wipe3, G3.GV.d, G3.st3, G3.bi3, G3.me3, G3.Me.ty, G3.rets, List.replicate, G3.wl, Nat.reduceAdd, Nat.reduceSub, reduceIte]
  exact ⟨a1, b1, .of q⟩
def lcmN (w0 w1 : List Int) : Nat := Nat.lcm w0.length w1.length
def rh (w0 w1 : List Int) : List Int := (List.range (lcmN w0 w1)).map fun (k : Nat) => hgt w0 w1 k
theorem lcm_le {w0 w1 : List Int} (l0 : w0.length ≤ 100) (l1 : w1.length ≤ 100) : lcmN w0 w1 ≤ 10000 := by
  unfold lcmN Nat.lcm
  exact Nat.le_trans (Nat.div_le_self _ _) (Nat.mul_le_mul l0 l1)
theorem lcm_pos {w0 w1 : List Int} (h0 : w0 ≠ []) (h1 : w1 ≠ []) : 0 < lcmN w0 w1 := Nat.lcm_pos (List.length_pos_iff.mpr h0) (List.length_pos_iff.mpr h1)
theorem rh_len {w0 w1 : List Int} : (rh w0 w1).length = lcmN w0 w1 := by unfold rh; rw [List.length_map, List.length_range]
/-- wheels -/
structure Wh (w0 w1 : List Int) : Prop where
  h0 : w0 ≠ []
  h1 : w1 ≠ []
  l0 : w0.length ≤ 100
  l1 : w1.length ≤ 100
theorem Wh.rlen {w0 w1 : List Int} (w : Wh w0 w1) : (rh w0 w1).length ≤ 10000 ∧ 0 < (rh w0 w1).length := by
  rw [rh_len]; exact ⟨lcm_le w.l0 w.l1, lcm_pos w.h0 w.h1⟩
def sp_round_heights : Sp3 := fun ds M Q => ∃ w0 w1, ds = [whl w0 w1] ∧ Wh w0 w1 ∧ newL ((rh w0 w1).map .int) M Q
theorem t_round_heights : ∀ ds M Q, sp_round_heights ds M Q → G3.wpSs (b_round_heights sp_height_at) (rets Q) (st3 n_round_heights.length ds) M := by
  rintro ds M Q ⟨w0, w1, rfl, w, q⟩
  have hl := lcm_le w.l0 w.l1
  have l0 := w.l0
  have l1 := w.l1
  simp only [n_round_heights, b_round_heights, whl, encI, Int.natAbs_natCast, Int.toNat_natCast, G3.wpSs, G3.wpS, G3.wpE, G3.wpEL, G3.wpO, G3.wpTO, G3.wpT, G3.wpAnd, G3.wpOr, G3.wpAndT, G3.wpOrT, G3.wpI, G3.wpG, G3.wpGs, G3.wipe3, G3.GV.d, G3.st3, G3.bi3, G3.me3, G3.Me.ty, G3.rets, List.replicate, G3.wl, Nat.reduceAdd, Nat.reduceSub, reduceIte]
  refine ⟨.inl (by omega), .inl (by omega), by omega, ?_, ?_⟩
  · unfold lcmN at hl; omega
  · refine lc_mp (fun k : Nat => .int (0 + k * 1)) (List.range (lcmN w0 w1)) (fun k : Nat => .int (hgt w0 w1 k)) (fun _ _ => trivial) (fun k hk M' sb Qe h => ?_) (by rw [List.length_range, sline]; omega) (newL_wk ?_)
    · simp only [G3.wpSs, G3.wpS, G3.wpE, G3.wpEL, G3.wpO, G3.wpTO, G3.wpT, G3.wpAnd, G3.wpOr, G3.wpAndT, G3.wpOrT, G3.wpI, G3.wpG, G3.wpGs, G3.wipe3, G3.GV.d, G3.st3, G3.bi3, G3.me3, G3.Me.ty, G3.rets, List.replicate, G3.wl, Nat.reduceAdd, Nat.reduceSub, reduceIte]
      refine ⟨w0, w1, _, rfl, w.h0, w.h1, ?_⟩
      rw [Int.mul_one, Int.zero_add]
      exact h _ .refl
    · unfold rh at q
      rw [List.map_map] at q
      exact q
theorem set_map {l : List Int} {k : Nat} {v : Int} : (l.map D.int).set k (.int v) = (l.set k v).map .int := by rw [List.map_set]
theorem flat_rep {n : Nat} {d : D} : (List.replicate n [d]).flatten = List.replicate n d := by
  induction n with
  | zero => rfl
  | succ n ih => rw [List.replicate_succ, List.flatten_cons, ih, List.replicate_succ]; rfl
theorem _root_.G3.Sub.put_free {M M' : Mp} {t : Addr} {o : MO} (s : Sub M M') (h : M t = none) : Sub M (put M' t o) := fun a u e => by
  rw [put_ne (fun z => by subst z; rw [h] at e; cases e)]; exact s _ _ e
theorem DivOk_small {n : Int} (h : 0 < n) (h2 : n ≤ 10000) : DivOk n := ⟨h, .inl (by omega)⟩
theorem MulOk_small {i n : Int} (h : 0 ≤ n) (h2 : n ≤ 100000000) : MulOk i n := .inr (.inl ⟨by omega, by omega⟩)
/-! ### draws -/
def sp__law_draws : Sp3 := fun ds M Q => ∃ (ns : List Int) (m : Nat), ds = [.cl (ns.map .int), .int m] ∧ ns.length ≤ 63 ∧ m ≤ 100000 ∧ ∀ xs : List Int, newL (xs.map .int) M Q
theorem cut_map {α : Type} (g : α → D) (l : List α) (lo hi : Option Int) : ∃ l' : List α, cutD (l.map g) lo hi = l'.map g ∧ l'.length ≤ l.length := by
  unfold cutD
  rw [List.length_map]
  exact ⟨(l.drop (HT.sIx l.length 0 lo)).take (HT.sIx l.length l.length hi - HT.sIx l.length 0 lo), by rw [List.map_take, List.map_drop], by rw [List.length_take, List.length_drop]; omega⟩
/-- the loop's word -/
def drI (s0 s1 : Option D) (cs : List Int) (c f d : Addr) (M : Mp) (i : Nat) (τ : S3) (M' : Mp) : Prop :=
  ∃ (ls xs : List Int) (a b e k : Option D), τ = [s0, s1, some (.ref c), some (.ref f), some (.ref d), a, b, e, k] ∧ M' c = some (.lst (cs.map .int)) ∧ M' f = some (.lst (ls.map .int)) ∧ M' d = some (.lst (xs.map .int)) ∧ ls.length = cs.length ∧ xs.length = i ∧ Sub M M'
theorem pow_bound : (2 : Int) ^ Int.toNat 7200 > 0 := Int.pow_pos (by decide)
theorem set_int {l : List Int} {k : Nat} {v : Int} : (l.map D.int).set k (.int v) = (l.set k v).map .int := by rw [List.map_set]
theorem snoc_int {l : List Int} {v : Int} : l.map D.int ++ [.int v] = (l ++ [v]).map .int := by rw [List.map_append]; rfl
theorem t__law_draws : ∀ ds M Q, sp__law_draws ds M Q → G3.wpSs b__law_draws (rets Q) (st3 n__law_draws.length ds) M := by
  rintro ds M Q ⟨ns, m, rfl, hn, hm, q⟩
  have key : ∀ (cs : List Int) (c : Addr) (M1 : Mp) (a b e f g h : Option D), cs ≠ [] → cs.length ≤ 100 → M c = none → M1 c = some (.lst (cs.map .int)) → Sub M M1 → G3.wpSs r1__law_draws (rets Q) [some (.cl (ns.map .int)), some (.int m), some (.ref c), a, b, e, f, g, h] M1 := by
    intro cs c M1 a b e f g h hc hl fc ec sb
    simp only [r1__law_draws, r2__law_draws, list3_ref ec, G3.wpSs, G3.wpS, G3.wpE, G3.wpEL, G3.wpO, G3.wpTO, G3.wpT, G3.wpAnd, G3.wpOr, G3.wpAndT, G3.wpOrT, G3.wpI, G3.wpG, G3.wpGs, G3.wipe3, G3.GV.d, G3.st3, G3.bi3, G3.me3, G3.Me.ty, G3.rets, List.replicate, G3.wl, Nat.reduceAdd, Nat.reduceSub, reduceIte]
    intro fp hf
    have ef : put M1 fp (.lst (cs.map .int)) fp = some (.lst (cs.map .int)) := put_same
    have ec1 : put M1 fp (.lst (cs.map .int)) c = some (.lst (cs.map .int)) := put_keep ec hf
    intro dp hd
    have ed := put_same (M := put M1 fp (.lst (cs.map .int))) (a := dp) (o := .lst [])
    have ef2 := put_keep (o' := .lst []) ef hd
    have ec2 := put_keep (o' := .lst []) ec1 hd
    have n1 : c ≠ fp := ne_of_put (o' := .lst []) ec hf
    have n2 : c ≠ dp := ne_of_put (o' := .lst []) ec1 hd
    have n3 : fp ≠ dp := ne_of_put (o' := .lst []) ef hd
    have ffp : M fp = none := by
      cases z : M fp with
      | none => rfl
      | some o => rw [sb _ _ z] at hf; cases hf
    have fdp : M dp = none := by
      obtain ⟨d1, _⟩ := put_free hd
      cases z : M dp with
      | none => rfl
      | some o => rw [sb _ _ z] at d1; cases d1
    have sb2 : Sub M (put (put M1 fp (.lst (cs.map .int))) dp (.lst [])) := (sb.trans (.new hf)).trans (.new hd)
    refine ⟨by omega, by omega, drI (some (.cl (ns.map .int))) (some (.int m)) cs c fp dp M, ⟨cs, [], _, _, _, _, rfl, ec2, ef2, ed, rfl, rfl, sb2⟩, ?_⟩
    rintro i τ M' ⟨ls, xs, a, b, e, k, rfl, gc, gf, gd, hls, hxs, sb3⟩ hi
    rw [rgD_length] at hi ⊢
    refine ⟨trivial, fun d hd => ?_, fun e => ?_⟩
    · obtain ⟨hi2, rfl⟩ := rgD_get hd
      have hp : 0 < cs.length := List.length_pos_iff.mpr hc
      have m0 := Int.emod_nonneg (0 + (i : Nat) * 1 : Int) (show (cs.length : Int) ≠ 0 by omega)
      have m1 := Int.emod_lt_of_pos (0 + (i : Nat) * 1 : Int) (show (0 : Int) < cs.length by omega)
      simp only [len3_ref gc, ix3_intsL gc m0 m1, ix3_intsL gf m0 (show _ < (ls.length : Int) by omega), isTyM_ref gd, refL_ref gd, G3.wpSs, G3.wpS, G3.wpE, G3.wpEL, G3.wpO, G3.wpTO, G3.wpT, G3.wpAnd, G3.wpOr, G3.wpAndT, G3.wpOrT, G3.wpI, G3.wpG, G3.wpGs, G3.wipe3, G3.GV.d, G3.st3, G3.bi3, G3.me3, G3.Me.ty, G3.rets, List.replicate, G3.wl, Nat.reduceAdd, Nat.reduceSub, reduceIte]
      generalize (0 + (i : Nat) * 1 : Int) % (cs.length : Int) = j at *
      have kl : ((0 + (i : Nat) * 1 : Int)) = i := by omega
      rw [kl]
      have em : ∀ v : Int, drI (some (.cl (ns.map .int))) (some (.int m)) cs c fp dp M (i + 1) [some (.cl (ns.map .int)), some (.int m), some (.ref c), some (.ref fp), some (.ref dp), some (.int (i : Nat)), some (.int j), e, some (.int v)] (put M' dp (.lst (xs.map .int ++ [.int ((v * v + 3 * v + (i : Nat)) % 1000003)]))) := by
        intro v
        refine ⟨ls, xs ++ [(v * v + 3 * v + (i : Nat)) % 1000003], _, _, _, _, rfl, ?_, ?_, ?_, hls, by rw [List.length_append, hxs]; rfl, sb3.put_free fdp⟩
        · rw [put_ne n2]; exact gc
        · rw [put_ne n3]; exact gf
        · rw [put_same, snoc_int]
      have el : (0 : Int) < cs.length ∧ xs.length < PySem.sizeLine := ⟨by omega, by rw [sline]; omega⟩
      have elseB : ∀ v : Int, v = (getZ cs j * 48271 + (i : Nat) * 69621 + 11) % 2147483647 → MulOk (getZ cs j) 48271 ∧ MulOk (i : Nat) 69621 ∧ 0 < (2147483647 : Int) ∧ MulOk v v ∧ MulOk 3 v ∧ 0 < (1000003 : Int) ∧ xs.length < PySem.sizeLine ∧ wk (drI (some (.cl (ns.map .int))) (some (.int m)) cs c fp dp M (i + 1) [some (.cl (ns.map .int)), some (.int m), some (.ref c), some (.ref fp), some (.ref dp), some (.int (i : Nat)), some (.int j), e, some (.int v)]) (put M' dp (.lst (xs.map .int ++ [.int ((v * v + 3 * v + (i : Nat)) % 1000003)]))) := by
        intro v hv
        have v0 : 0 ≤ v := by rw [hv]; exact Int.emod_nonneg _ (by decide)
        have v1 : v < 2147483647 := by rw [hv]; exact Int.emod_lt_of_pos _ (by decide)
        exact ⟨MulOk_small (by decide) (by decide), MulOk_small (by decide) (by decide), by decide, .inl ⟨by omega, by omega⟩, .inl ⟨by decide, by decide⟩, by decide, el.2, .of (em v)⟩
      refine ⟨el.1, by unfold CPow; decide, ?_⟩
      by_cases c1 : (10 : Int) ^ Int.toNat 18 ≤ getZ cs j
      · rw [if_pos c1]
        by_cases c2 : 0 < getZ ls j
        · rw [if_pos c2]
          refine ⟨by decide, el.2, ?_⟩
          rw [ix3_intsL (M := put M' dp _) (p := fp) (ns := ls) (by rw [put_ne n3]; exact gf) m0 (by omega)]
          simp only [G3.wpSs, G3.wpS, G3.wpE, G3.wpEL, G3.wpO, G3.wpTO, G3.wpT, G3.wpAnd, G3.wpOr, G3.wpAndT, G3.wpOrT, G3.wpI, G3.wpG, G3.wpGs, G3.wipe3, G3.GV.d, G3.st3, G3.bi3, G3.me3, G3.Me.ty, G3.rets, List.replicate, G3.wl, Nat.reduceAdd, Nat.reduceSub, reduceIte]
          refine ⟨⟨by decide, .inl (by decide)⟩, ?_⟩
          rw [set3_ref (l := ls.map .int) (by rw [put_ne n3]; exact gf), ixN_in m0 (by rw [List.length_map]; omega), some3_some, set_int]
          refine .of ⟨ls.set j.toNat (getZ ls j / 1000), xs ++ [getZ ls j % 1000], _, _, _, _, rfl, ?_, ?_, ?_, by rw [List.length_set]; exact hls, by rw [List.length_append, hxs]; rfl, (sb3.put_free fdp).put_free ffp⟩
          · rw [put_ne n1, put_ne n2]; exact gc
          · rw [put_same]
          · rw [put_ne (Ne.symm n3), put_same, snoc_int]
        · rw [if_neg c2]
          exact elseB _ rfl
      · rw [if_neg c1]
        exact elseB _ rfl
    · refine .of ?_
      simp only [isTyM_ref gd, refL_ref gd, G3.wpSs, G3.wpS, G3.wpE, G3.wpEL, G3.wpO, G3.wpTO, G3.wpT, G3.wpAnd, G3.wpOr, G3.wpAndT, G3.wpOrT, G3.wpI, G3.wpG, G3.wpGs, G3.wipe3, G3.GV.d, G3.st3, G3.bi3, G3.me3, G3.Me.ty, G3.rets, List.replicate, G3.wl, Nat.reduceAdd, Nat.reduceSub, reduceIte]
      rw [← List.map_reverse]
      refine ⟨put M dp (.lst (xs.reverse.map .int)), ?_, q _ _ fdp⟩
      exact sb3.put dp _
  simp only [b__law_draws, n__law_draws, G3.wpSs, G3.wpS, G3.wpE, G3.wpEL, G3.wpO, G3.wpTO, G3.wpT, G3.wpAnd, G3.wpOr, G3.wpAndT, G3.wpOrT, G3.wpI, G3.wpG, G3.wpGs, G3.wipe3, G3.GV.d, G3.st3, G3.bi3, G3.me3, G3.Me.ty, G3.rets, List.replicate, G3.wl, Nat.reduceAdd, Nat.reduceSub, reduceIte]
  obtain ⟨ns', en, hn'⟩ := cut_map D.int ns none (some 63)
  rw [en]
  intro p hp
  have e1 : put M p (.lst (ns'.map .int)) p = some (.lst (ns'.map .int)) := put_same
  simp only [seqI_ref e1, G3.wpSs, G3.wpS, G3.wpE, G3.wpEL, G3.wpO, G3.wpTO, G3.wpT, G3.wpAnd, G3.wpOr, G3.wpAndT, G3.wpOrT, G3.wpI, G3.wpG, G3.wpGs, G3.wipe3, G3.GV.d, G3.st3, G3.bi3, G3.me3, G3.Me.ty, G3.rets, List.replicate, G3.wl, Nat.reduceAdd, Nat.reduceSub, reduceIte]
  refine lc_mp D.int ns' (fun z => .int (z % (1 * 2 ^ Int.toNat 7200))) (fun M' sb => sb _ _ e1) (fun a ha M' sb Qe h => ?_) (by rw [sline]; omega) ?_
  · simp only [G3.wpSs, G3.wpS, G3.wpE, G3.wpEL, G3.wpO, G3.wpTO, G3.wpT, G3.wpAnd, G3.wpOr, G3.wpAndT, G3.wpOrT, G3.wpI, G3.wpG, G3.wpGs, G3.wipe3, G3.GV.d, G3.st3, G3.bi3, G3.me3, G3.Me.ty, G3.rets, List.replicate, G3.wl, Nat.reduceAdd, Nat.reduceSub, reduceIte]
    exact ⟨by unfold CPow; decide, by rw [Int.one_mul]; exact pow_bound, h _ .refl⟩
  · rw [show (ns'.map fun z => D.int (z % (1 * 2 ^ Int.toNat 7200))) = (ns'.map fun z => z % (1 * 2 ^ Int.toNat 7200)).map .int by rw [List.map_map]; rfl]
    have hl : (ns'.map fun z => z % (1 * 2 ^ Int.toNat 7200)).length ≤ 63 := by rw [List.length_map]; omega
    generalize (ns'.map fun z => z % (1 * 2 ^ Int.toNat 7200)) = cs at *
    intro c fc
    have e2 : put (put M p (.lst (ns'.map .int))) c (.lst (cs.map .int)) c = some (.lst (cs.map .int)) := put_same
    obtain ⟨fc1, fc2⟩ := put_free fc
    simp only [len3_ref e2, isTyM_ref e2, refL_ref e2, G3.wpSs, G3.wpS, G3.wpE, G3.wpEL, G3.wpO, G3.wpTO, G3.wpT, G3.wpAnd, G3.wpOr, G3.wpAndT, G3.wpOrT, G3.wpI, G3.wpG, G3.wpGs, G3.wipe3, G3.GV.d, G3.st3, G3.bi3, G3.me3, G3.Me.ty, G3.rets, List.replicate, G3.wl, Nat.reduceAdd, Nat.reduceSub, reduceIte]
    by_cases c0 : cs = []
    · subst c0
      rw [if_pos (by simp)]
      refine ⟨by rw [sline]; decide, ?_⟩
      rw [put_put]
      exact key [0] c _ _ _ _ _ _ _ (by simp) (by simp) fc1 put_same ((Sub.new hp).put_free fc1 |>.trans .refl)
    · have hp0 := List.length_pos_iff.mpr c0
      rw [if_neg (by omega)]
      exact key cs c _ _ _ _ _ _ _ c0 (by omega) fc1 e2 ((Sub.new hp).put_free fc1)
/-! ### takes -/
def sp__law_take : Sp3 := fun ds M Q => ∃ (a : Addr) (xs : List Int) (m : Int), ds = [.ref a, .int m] ∧ M a = some (.lst (xs.map .int)) ∧ 0 < m ∧ ∀ (r : Int) (xs' : List Int), 0 ≤ r → r < m → Q (.int r) (put M a (.lst (xs'.map .int)))
theorem t__law_take : ∀ ds M Q, sp__law_take ds M Q → G3.wpSs b__law_take (rets Q) (st3 n__law_take.length ds) M := by
  rintro ds M Q ⟨a, xs, m, rfl, e, hm, q⟩
  simp only [n__law_take, r1__law_take, b__law_take, len3_ref e, isTyM_ref e, refL_ref e, G3.wpSs, G3.wpS, G3.wpE, G3.wpEL, G3.wpO, G3.wpTO, G3.wpT, G3.wpAnd, G3.wpOr, G3.wpAndT, G3.wpOrT, G3.wpI, G3.wpG, G3.wpGs, G3.wipe3, G3.GV.d, G3.st3, G3.bi3, G3.me3, G3.Me.ty, G3.rets, List.replicate, G3.wl, Nat.reduceAdd, Nat.reduceSub, reduceIte]
  by_cases hx : xs = []
  · subst hx
    rw [if_pos (by simp)]
    have := q 0 [] (by omega) hm
    rw [show (List.map D.int ([] : List Int)) = [] from rfl] at this e
    rw [put_self e] at this
    exact .of this
  · rw [if_neg (by have := List.length_pos_iff.mpr hx; omega)]
    have hl := List.length_pos_iff.mpr hx
    rw [List.getElem?_map, List.getElem?_eq_getElem (by omega)]
    simp only [Option.map_some, G3.wpSs, G3.wpS, G3.wpE, G3.wpEL, G3.wpO, G3.wpTO, G3.wpT, G3.wpAnd, G3.wpOr, G3.wpAndT, G3.wpOrT, G3.wpI, G3.wpG, G3.wpGs, G3.wipe3, G3.GV.d, G3.st3, G3.bi3, G3.me3, G3.Me.ty, G3.rets, List.replicate, G3.wl, Nat.reduceAdd, Nat.reduceSub, reduceIte]
    refine ⟨hm, .of ?_⟩
    rw [← List.map_dropLast]
    exact q _ _ (Int.emod_nonneg _ (by omega)) (Int.emod_lt_of_pos _ hm)
def sp__law_pick : Sp3 := fun ds M Q => ∃ (a p : Addr) (xs : List Int) (l : List D), ds = [.ref a, .ref p] ∧ M a = some (.lst (xs.map .int)) ∧ M p = some (.lst l) ∧ a ≠ p ∧ l ≠ [] ∧ ∀ (r : D) (xs' : List Int), r ∈ l → Q r (put M a (.lst (xs'.map .int)))
theorem t__law_pick : ∀ ds M Q, sp__law_pick ds M Q → G3.wpSs (b__law_pick sp__law_take) (rets Q) (st3 n__law_pick.length ds) M := by
  rintro ds M Q ⟨a, p, xs, l, rfl, e, ep, hne, hl, q⟩
  have hlp := List.length_pos_iff.mpr hl
  simp only [n__law_pick, b__law_pick, len3_ref ep, G3.wpSs, G3.wpS, G3.wpE, G3.wpEL, G3.wpO, G3.wpTO, G3.wpT, G3.wpAnd, G3.wpOr, G3.wpAndT, G3.wpOrT, G3.wpI, G3.wpG, G3.wpGs, G3.wipe3, G3.GV.d, G3.st3, G3.bi3, G3.me3, G3.Me.ty, G3.rets, List.replicate, G3.wl, Nat.reduceAdd, Nat.reduceSub, reduceIte]
  refine ⟨a, xs, _, rfl, e, by omega, fun r xs' h0 h1 => ?_⟩
  simp only []
  rw [ix3_ref (by rw [put_ne hne.symm]; exact ep), atI_some h0 h1, some3_some]
  exact .of (q _ _ (List.getElem_mem _))
/-! ### same -/
theorem ne_bl {x y : Bool} {M : Mp} {Q : K3} : cmp3 .ne (.bl x) (.bl y) M Q = Q (.bl (x != y)) M := by
  cases x <;> cases y <;> exact propext ⟨fun h => h.2.2, fun h => ⟨rfl, rfl, h⟩⟩
theorem eq_bl {x y : Bool} {M : Mp} {Q : K3} : cmp3 .eq (.bl x) (.bl y) M Q = Q (.bl (x == y)) M := by
  cases x <;> cases y <;> exact propext ⟨fun h => h.2.2, fun h => ⟨rfl, rfl, h⟩⟩
def okF : D → Prop
  | .non => True
  | .bl _ => True
  | .int _ => True
  | .str x => PySem.SeqAt.shaped (.str x) = true
  | _ => False
theorem eq_flat {d : D} {M : Mp} {Q : K3} (f : okF d) (q : Q (.bl true) M) : cmp3 .eq d d M Q := by
  cases d with
  | non => exact ⟨rfl, rfl, q⟩
  | bl b => rw [eq_bl]; simpa using q
  | int i => show Q (.bl (decide (i = i))) M; simpa using q
  | str x =>
    refine ⟨f, f, ?_⟩
    have : PySem.PyData.eqv (.str x) (.str x) = true := by
      unfold PySem.PyData.eqv; simp
    rw [this]; exact q
  | _ => cases f
def sameD (M : Mp) : Nat → D → D → Prop
  | 0, _, _ => False
  | k + 1, a, d => (okF d ∧ a = d) ∨
    (∃ l m : List D, a = .tup l ∧ d = .tup m ∧ l.length = m.length ∧ m.length ≤ 1000000 ∧ ∀ (i : Nat) (x y : D), l[i]? = some x → m[i]? = some y → sameD M k x y) ∨
    (∃ (p q : Addr) (l m : List D), a = .ref p ∧ d = .ref q ∧ M p = some (.lst l) ∧ M q = some (.lst m) ∧ l.length = m.length ∧ m.length ≤ 1000000 ∧ ∀ (i : Nat) (x y : D), l[i]? = some x → m[i]? = some y → sameD M k x y)
theorem sameD.mono {M M' : Mp} (s : Sub M M') : ∀ {k : Nat} {a d : D}, sameD M k a d → sameD M' k a d
  | 0, _, _, h => h.elim
  | k + 1, a, d, h => by
    unfold sameD at h ⊢
    rcases h with h | ⟨l, m, e1, e2, e3, e4, h⟩ | ⟨p, q, l, m, e1, e2, e3, e4, e5, e6, h⟩
    · exact .inl h
    · exact .inr (.inl ⟨l, m, e1, e2, e3, e4, fun i x y hx hy => (h i x y hx hy).mono s⟩)
    · exact .inr (.inr ⟨p, q, l, m, e1, e2, s _ _ e3, s _ _ e4, e5, e6, fun i x y hx hy => (h i x y hx hy).mono s⟩)
def sp__law_same (k : Nat) : Sp3 := fun ds M Q => ∃ a d, ds = [a, d] ∧ sameD M k a d ∧ Q (.bl true) M
theorem rep_flat {n : Nat} {d : D} (h : flatD d = true) : (List.replicate n d).all flatD = true := by
  rw [List.all_eq_true]
  intro x hx
  rw [(List.mem_replicate.mp hx).2]; exact h
theorem not_in {n : Nat} : inF (.bl false) (List.replicate n (.bl true)) = false := by
  unfold inF
  rw [List.any_eq_false]
  intro x hx
  rw [(List.mem_replicate.mp hx).2]; simp [eqF]
theorem map_const {α : Type} {d : D} : ∀ l : List α, (l.map fun _ => d) = List.replicate l.length d
  | [] => rfl
  | a :: l => by rw [List.map_cons, map_const l]; rfl
theorem same_tail {τ : S3} {M : Mp} {Q : K3} {te : TE3} {m : Nat} (hm : m ≤ 1000000)
    (he : ∀ j, j < m → ∀ M', Sub M M' → ∀ Qe : K3, (∀ M4, Sub M' M4 → Qe (.bl true) M4) → te ((wipe3 τ [2]).set 2 (some (.int j))) M' Qe) (q : Q (.bl true) M) :
    -2 ^ 62 ≤ (m : Int) ∧ (m : Int) < 2 ^ 62 ∧ lcW (rgD 0 1 (m : Int).toNat) (fun _ => True) (Tn.nm 2) [2] (fun _ M Q => Q true M) te τ M fun e M2 => cmp3 .nin (.bl false) e M2 fun d M' => wk (Q d) M' := by
  refine ⟨by omega, by omega, ?_⟩
  rw [show rgD 0 1 (m : Int).toNat = (List.range m).map (fun k : Nat => D.int (0 + k * 1)) from by rw [Int.toNat_natCast]; rfl]
  refine lc_mp _ (List.range m) (fun _ => .bl true) (fun _ _ => trivial) (fun j hj M' sb Qe hq => ?_) (by rw [List.length_range, sline]; omega) ?_
  · have hj := List.mem_range.mp hj
    simp only [G3.wpG]
    rw [show ((0 : Int) + (j : Nat) * 1) = j by omega]
    exact he j hj M' sb Qe hq
  · intro p hp
    rw [nin_, map_const, List.length_range, in3_ref put_same, not_in]
    exact ⟨rfl, rep_flat rfl, wk_new hp q⟩
theorem t__law_same (k : Nat) : ∀ ds M Q, sp__law_same (k + 1) ds M Q → G3.wpSs (b__law_same (sp__law_same k)) (rets Q) (st3 n__law_same.length ds) M := by
  rintro ds M Q ⟨a, d, rfl, h, q⟩
  rcases h with ⟨f, rfl⟩ | ⟨l, m, rfl, rfl, hl, hm, h⟩ | ⟨p, r, l, m, rfl, rfl, e1, e2, hl, hm, h⟩
  · cases a <;> first
      | (cases f; done)
      | (simp only [n__law_same, r2__law_same, r1__law_same, r5__law_same, r4__law_same, r3__law_same, b__law_same, tyName, isTy, List.any_cons, List.any_nil, ne_bl, isN_, G3.isNon, String.reduceBEq, Bool.or_false, Bool.or_true, Bool.and_false, Bool.false_and, Bool.true_and, Bool.and_true, Bool.or_self, Bool.and_self, bne_self_eq_false, G3.wpSs, G3.wpS, G3.wpE, G3.wpEL, G3.wpO, G3.wpTO, G3.wpT, G3.wpAnd, G3.wpOr, G3.wpAndT, G3.wpOrT, G3.wpI, G3.wpG, G3.wpGs, G3.wipe3, G3.GV.d, G3.st3, G3.bi3, G3.me3, G3.Me.ty, G3.rets, List.replicate, G3.wl, Nat.reduceAdd, Nat.reduceSub, reduceIte]
         first | exact eq_flat trivial (wk.of q) | exact eq_flat f (wk.of q) | (simp only [decide_true, beq_self_eq_true]; exact wk.of q))
  · simp only [n__law_same, r2__law_same, r1__law_same, r5__law_same, r4__law_same, r3__law_same, b__law_same, tyName, isTy, List.any_cons, List.any_nil, ne_bl, isN_, G3.isNon, String.reduceBEq, Bool.or_false, Bool.or_true, Bool.true_or, Bool.and_false, Bool.false_and, Bool.true_and, Bool.and_true, Bool.or_self, Bool.and_self, bne_self_eq_false, hl, decide_true, G3.wpSs, G3.wpS, G3.wpE, G3.wpEL, G3.wpO, G3.wpTO, G3.wpT, G3.wpAnd, G3.wpOr, G3.wpAndT, G3.wpOrT, G3.wpI, G3.wpG, G3.wpGs, G3.wipe3, G3.GV.d, G3.st3, G3.bi3, G3.me3, G3.Me.ty, G3.rets, List.replicate, G3.wl, Nat.reduceAdd, Nat.reduceSub, reduceIte]
    refine same_tail hm (fun j hj M' sb Qe hq => ?_) q
    simp only [G3.wpSs, G3.wpS, G3.wpE, G3.wpEL, G3.wpO, G3.wpTO, G3.wpT, G3.wpAnd, G3.wpOr, G3.wpAndT, G3.wpOrT, G3.wpI, G3.wpG, G3.wpGs, G3.wipe3, G3.GV.d, G3.st3, G3.bi3, G3.me3, G3.Me.ty, G3.rets, List.replicate, G3.wl, Nat.reduceAdd, Nat.reduceSub, reduceIte]
    rw [atI_some (by omega) (by omega), atI_some (by omega) (by omega)]
    simp only [G3.wpSs, G3.wpS, G3.wpE, G3.wpEL, G3.wpO, G3.wpTO, G3.wpT, G3.wpAnd, G3.wpOr, G3.wpAndT, G3.wpOrT, G3.wpI, G3.wpG, G3.wpGs, G3.wipe3, G3.GV.d, G3.st3, G3.bi3, G3.me3, G3.Me.ty, G3.rets, List.replicate, G3.wl, Nat.reduceAdd, Nat.reduceSub, reduceIte]
    exact ⟨_, _, rfl, (h j _ _ (by simp) (by simp)).mono sb, hq _ .refl⟩
  · simp only [n__law_same, r2__law_same, r1__law_same, r5__law_same, r4__law_same, r3__law_same, b__law_same, tyName, e1, e2, len3_ref e1, len3_ref e2, isTy, List.any_cons, List.any_nil, ne_bl, isN_, G3.isNon, String.reduceBEq, Bool.or_false, Bool.or_true, Bool.true_or, Bool.and_false, Bool.false_and, Bool.true_and, Bool.and_true, Bool.or_self, Bool.and_self, bne_self_eq_false, hl, decide_true, G3.wpSs, G3.wpS, G3.wpE, G3.wpEL, G3.wpO, G3.wpTO, G3.wpT, G3.wpAnd, G3.wpOr, G3.wpAndT, G3.wpOrT, G3.wpI, G3.wpG, G3.wpGs, G3.wipe3, G3.GV.d, G3.st3, G3.bi3, G3.me3, G3.Me.ty, G3.rets, List.replicate, G3.wl, Nat.reduceAdd, Nat.reduceSub, reduceIte]
    refine same_tail hm (fun j hj M' sb Qe hq => ?_) q
    simp only [G3.wpSs, G3.wpS, G3.wpE, G3.wpEL, G3.wpO, G3.wpTO, G3.wpT, G3.wpAnd, G3.wpOr, G3.wpAndT, G3.wpOrT, G3.wpI, G3.wpG, G3.wpGs, G3.wipe3, G3.GV.d, G3.st3, G3.bi3, G3.me3, G3.Me.ty, G3.rets, List.replicate, G3.wl, Nat.reduceAdd, Nat.reduceSub, reduceIte]
    rw [ix3_ref (sb _ _ e1), atI_some (by omega) (by omega)]
    simp only [G3.wpSs, G3.wpS, G3.wpE, G3.wpEL, G3.wpO, G3.wpTO, G3.wpT, G3.wpAnd, G3.wpOr, G3.wpAndT, G3.wpOrT, G3.wpI, G3.wpG, G3.wpGs, G3.wipe3, G3.GV.d, G3.st3, G3.bi3, G3.me3, G3.Me.ty, G3.rets, List.replicate, G3.wl, Nat.reduceAdd, Nat.reduceSub, reduceIte]
    rw [ix3_ref (sb _ _ e2), atI_some (by omega) (by omega)]
    simp only [G3.wpSs, G3.wpS, G3.wpE, G3.wpEL, G3.wpO, G3.wpTO, G3.wpT, G3.wpAnd, G3.wpOr, G3.wpAndT, G3.wpOrT, G3.wpI, G3.wpG, G3.wpGs, G3.wipe3, G3.GV.d, G3.st3, G3.bi3, G3.me3, G3.Me.ty, G3.rets, List.replicate, G3.wl, Nat.reduceAdd, Nat.reduceSub, reduceIte]
    exact ⟨_, _, rfl, (h j _ _ (by simp) (by simp)).mono sb, hq _ .refl⟩
/-- nothing is promised -/
def spNo : Sp3 := fun _ _ _ => False
theorem same_one {M : Mp} {k : Nat} {d : D} (f : okF d) : sameD M (k + 1) d d := .inl ⟨f, rfl⟩
/-! ### gcd -/
def sp__law_gcd : Sp3 := fun ds M Q => ∃ a b : Nat, ds = [.int a, .int b] ∧ b < 19999 ∧ Q (.int (Nat.gcd a b)) M
theorem t__law_gcd : ∀ ds M Q, sp__law_gcd ds M Q → G3.wpSs b__law_gcd (rets Q) (st3 n__law_gcd.length ds) M := by
  rintro ds M Q ⟨a, b, rfl, hb, q⟩
  simp only [n__law_gcd, r1__law_gcd, r2__law_gcd, b__law_gcd, Int.natAbs_natCast, G3.wpSs, G3.wpS, G3.wpE, G3.wpEL, G3.wpO, G3.wpTO, G3.wpT, G3.wpAnd, G3.wpOr, G3.wpAndT, G3.wpOrT, G3.wpI, G3.wpG, G3.wpGs, G3.wipe3, G3.GV.d, G3.st3, G3.bi3, G3.me3, G3.Me.ty, G3.rets, List.replicate, G3.wl, Nat.reduceAdd, Nat.reduceSub, reduceIte]
  refine ⟨by decide, by decide, fun i τ M' => ∃ (x y : Nat) (s4 s5 : Option D), τ = [some (.int a), some (.int b), some (.int x), some (.int y), s4, s5] ∧ Nat.gcd x y = Nat.gcd a b ∧ y + i ≤ b ∧ M' = M, ⟨a, b, _, _, rfl, rfl, by omega, rfl⟩, ?_⟩
  rintro i τ M' ⟨x, y, s4, s5, rfl, hg, hy, rfl⟩ hi
  rw [rgD_length] at hi ⊢
  refine ⟨trivial, fun d hd => ?_, fun e => ?_⟩
  · obtain ⟨hi2, rfl⟩ := rgD_get hd
    simp only [G3.wpSs, G3.wpS, G3.wpE, G3.wpEL, G3.wpO, G3.wpTO, G3.wpT, G3.wpAnd, G3.wpOr, G3.wpAndT, G3.wpOrT, G3.wpI, G3.wpG, G3.wpGs, G3.wipe3, G3.GV.d, G3.st3, G3.bi3, G3.me3, G3.Me.ty, G3.rets, List.replicate, G3.wl, Nat.reduceAdd, Nat.reduceSub, reduceIte]
    by_cases c : y = 0
    · subst c
      rw [if_pos (by simp)]
      rw [Nat.gcd_zero_right] at hg
      rw [hg]; exact wk.of q
    · rw [if_neg (by omega)]
      have hlt := Nat.mod_lt x (show y > 0 by omega)
      refine ⟨by omega, wk.of ⟨y, x % y, some (.int (0 + (i : Nat) * 1)), some (.int ((x : Int) % (y : Int))), ?_, ?_, by omega, rfl⟩⟩
      · rw [Int.natCast_emod]
      · rw [← hg, Nat.gcd_comm y, ← Nat.gcd_rec, Nat.gcd_comm]
  · subst e
    have : (20000 : Int).toNat = 20000 := rfl
    omega
/-! ### draws of a tide -/
/-- the draws stay a list of ints -/
abbrev Dr (M : Mp) (a : Addr) : Prop := ∃ xs : List Int, M a = some (.lst (xs.map .int))
theorem take_step {M : Mp} {a : Addr} {xs : List Int} {m : Int} {Q : K3} (e : M a = some (.lst (xs.map .int))) (hm : 0 < m) (q : ∀ (r : Int) (xs' : List Int), 0 ≤ r → r < m → Q (.int r) (put M a (.lst (xs'.map .int)))) : sp__law_take [.ref a, .int m] M Q := ⟨a, xs, m, rfl, e, hm, q⟩
def sp__law_tide_number : Sp3 := fun ds M Q => ∃ (a : Addr) (xs : List Int), ds = [.ref a] ∧ M a = some (.lst (xs.map .int)) ∧ ∀ (r : Int) (xs' : List Int), Q (.int r) (put M a (.lst (xs'.map .int)))
theorem put_as {M : Mp} {a : Addr} {o : MO} {xs : List Int} : put (put M a o) a (.lst (xs.map .int)) = put M a (.lst (xs.map .int)) := put_put
theorem t__law_tide_number : ∀ ds M Q, sp__law_tide_number ds M Q → G3.wpSs (b__law_tide_number sp__law_pick sp__law_take) (rets Q) (st3 n__law_tide_number.length ds) M := by
  rintro ds M Q ⟨a, xs, rfl, e, q⟩
  simp only [n__law_tide_number, r1__law_tide_number, b__law_tide_number, G3.wpSs, G3.wpS, G3.wpE, G3.wpEL, G3.wpO, G3.wpTO, G3.wpT, G3.wpAnd, G3.wpOr, G3.wpAndT, G3.wpOrT, G3.wpI, G3.wpG, G3.wpGs, G3.wipe3, G3.GV.d, G3.st3, G3.bi3, G3.me3, G3.Me.ty, G3.rets, List.replicate, G3.wl, Nat.reduceAdd, Nat.reduceSub, reduceIte]
  refine take_step e (by decide) fun r xs1 h0 h1 => ?_
  simp only [G3.wpSs, G3.wpS, G3.wpE, G3.wpEL, G3.wpO, G3.wpTO, G3.wpT, G3.wpAnd, G3.wpOr, G3.wpAndT, G3.wpOrT, G3.wpI, G3.wpG, G3.wpGs, G3.wipe3, G3.GV.d, G3.st3, G3.bi3, G3.me3, G3.Me.ty, G3.rets, List.replicate, G3.wl, Nat.reduceAdd, Nat.reduceSub, reduceIte]
  refine take_step put_same (by decide) fun r2 xs2 h2 h3 => ?_
  simp only [put_as]
  by_cases c : 0 < r2
  · simp only [G3.gt_int, isB3_bl, decide_eq_true_eq]
    rw [if_pos c]
    exact wk.of (q _ _)
  · simp only [G3.gt_int, isB3_bl, decide_eq_true_eq]
    rw [if_neg c]
    refine ⟨by unfold CPow; decide, by unfold CPow; decide, fun p hp => ?_⟩
    have hpa : a ≠ p := ne_of_put (o := .lst (xs2.map .int)) (o' := .lst []) put_same hp
    refine ⟨a, p, xs2, _, rfl, ?_, put_same, hpa, by simp, fun r3 xs3 hr3 => ?_⟩
    · rw [put_ne hpa]; exact put_same
    · refine take_step (xs := xs3) put_same (by decide) fun r4 xs4 h4 h5 => ?_
      simp only [put_as, G3.wpSs, G3.wpS, G3.wpE, G3.wpEL, G3.wpO, G3.wpTO, G3.wpT, G3.wpAnd, G3.wpOr, G3.wpAndT, G3.wpOrT, G3.wpI, G3.wpG, G3.wpGs, G3.wipe3, G3.GV.d, G3.st3, G3.bi3, G3.me3, G3.Me.ty, G3.rets, List.replicate, G3.wl, Nat.reduceAdd, Nat.reduceSub, reduceIte]
      have hz : ∃ z, r3 = .int z ∧ MulOk z (1 - 2 * r4) := by
        simp only [List.mem_cons, List.not_mem_nil, or_false] at hr3
        rcases hr3 with rfl | rfl | rfl <;> exact ⟨_, rfl, .inr (.inl ⟨by omega, by omega⟩)⟩
      obtain ⟨z, rfl, hz⟩ := hz
      simp only [G3.wpSs, G3.wpS, G3.wpE, G3.wpEL, G3.wpO, G3.wpTO, G3.wpT, G3.wpAnd, G3.wpOr, G3.wpAndT, G3.wpOrT, G3.wpI, G3.wpG, G3.wpGs, G3.wipe3, G3.GV.d, G3.st3, G3.bi3, G3.me3, G3.Me.ty, G3.rets, List.replicate, G3.wl, Nat.reduceAdd, Nat.reduceSub, reduceIte]
      refine ⟨MulOk_small (by omega) (by omega), hz, ?_⟩
      obtain ⟨hp1, hp2⟩ := put_free hp
      rw [put_comm (Ne.symm hpa), put_as]
      refine wk_sub (M' := put (put M a _) p _) ?_ (q _ xs4)
      exact Sub.new (by rw [put_ne (Ne.symm hpa)]; exact hp1)
def sp__law_tide_period : Sp3 := fun ds M Q => ∃ (a : Addr) (xs : List Int), ds = [.ref a] ∧ M a = some (.lst (xs.map .int)) ∧ ∀ (r : Int) (xs' : List Int), 1 ≤ r → r ≤ 24 → Q (.int r) (put M a (.lst (xs'.map .int)))
theorem t__law_tide_period : ∀ ds M Q, sp__law_tide_period ds M Q → G3.wpSs (b__law_tide_period sp__law_take) (rets Q) (st3 n__law_tide_period.length ds) M := by
  rintro ds M Q ⟨a, xs, rfl, e, q⟩
  simp only [n__law_tide_period, r1__law_tide_period, b__law_tide_period, G3.wpSs, G3.wpS, G3.wpE, G3.wpEL, G3.wpO, G3.wpTO, G3.wpT, G3.wpAnd, G3.wpOr, G3.wpAndT, G3.wpOrT, G3.wpI, G3.wpG, G3.wpGs, G3.wipe3, G3.GV.d, G3.st3, G3.bi3, G3.me3, G3.Me.ty, G3.rets, List.replicate, G3.wl, Nat.reduceAdd, Nat.reduceSub, reduceIte]
  refine take_step e (by decide) fun r xs1 h0 h1 => ?_
  simp only [G3.eq_int, isB3_bl, decide_eq_true_eq]
  split
  · refine take_step put_same (by decide) fun r2 xs2 h2 h3 => ?_
    simp only [put_as, G3.wpSs, G3.wpS, G3.wpE, G3.wpEL, G3.wpO, G3.wpTO, G3.wpT, G3.wpAnd, G3.wpOr, G3.wpAndT, G3.wpOrT, G3.wpI, G3.wpG, G3.wpGs, G3.wipe3, G3.GV.d, G3.st3, G3.bi3, G3.me3, G3.Me.ty, G3.rets, List.replicate, G3.wl, Nat.reduceAdd, Nat.reduceSub, reduceIte]
    exact wk.of (q _ _ (by omega) (by omega))
  · refine take_step put_same (by decide) fun r2 xs2 h2 h3 => ?_
    simp only [put_as, G3.wpSs, G3.wpS, G3.wpE, G3.wpEL, G3.wpO, G3.wpTO, G3.wpT, G3.wpAnd, G3.wpOr, G3.wpAndT, G3.wpOrT, G3.wpI, G3.wpG, G3.wpGs, G3.wipe3, G3.GV.d, G3.st3, G3.bi3, G3.me3, G3.Me.ty, G3.rets, List.replicate, G3.wl, Nat.reduceAdd, Nat.reduceSub, reduceIte]
    exact wk.of (q _ _ (by omega) (by omega))
def sp__law_tide_hour : Sp3 := fun ds M Q => ∃ (a : Addr) (xs : List Int) (few : Int), ds = [.ref a, .int few] ∧ M a = some (.lst (xs.map .int)) ∧ 0 < few ∧ ∀ (r : Int) (xs' : List Int), 0 ≤ r → Q (.int r) (put M a (.lst (xs'.map .int)))
theorem t__law_tide_hour : ∀ ds M Q, sp__law_tide_hour ds M Q → G3.wpSs (b__law_tide_hour sp__law_take sp__law_pick) (rets Q) (st3 n__law_tide_hour.length ds) M := by
  rintro ds M Q ⟨a, xs, few, rfl, e, hf, q⟩
  simp only [n__law_tide_hour, r1__law_tide_hour, b__law_tide_hour, G3.wpSs, G3.wpS, G3.wpE, G3.wpEL, G3.wpO, G3.wpTO, G3.wpT, G3.wpAnd, G3.wpOr, G3.wpAndT, G3.wpOrT, G3.wpI, G3.wpG, G3.wpGs, G3.wipe3, G3.GV.d, G3.st3, G3.bi3, G3.me3, G3.Me.ty, G3.rets, List.replicate, G3.wl, Nat.reduceAdd, Nat.reduceSub, reduceIte]
  refine take_step e (by decide) fun r xs2 h0 h1 => ?_
  simp only [G3.eq_int, isB3_bl, decide_eq_true_eq]
  split
  · refine ⟨by unfold CPow; decide, by unfold CPow; decide, by unfold CPow; decide, fun p hp => ?_⟩
    have hpa : a ≠ p := ne_of_put (o := .lst (xs2.map .int)) (o' := .lst []) put_same hp
    refine ⟨a, p, xs2, _, rfl, ?_, put_same, hpa, by simp, fun r3 xs3 hr3 => ?_⟩
    · rw [put_ne hpa]; exact put_same
    · refine take_step (xs := xs3) put_same (by decide) fun r4 xs4 h4 h5 => ?_
      simp only [put_as, G3.wpSs, G3.wpS, G3.wpE, G3.wpEL, G3.wpO, G3.wpTO, G3.wpT, G3.wpAnd, G3.wpOr, G3.wpAndT, G3.wpOrT, G3.wpI, G3.wpG, G3.wpGs, G3.wipe3, G3.GV.d, G3.st3, G3.bi3, G3.me3, G3.Me.ty, G3.rets, List.replicate, G3.wl, Nat.reduceAdd, Nat.reduceSub, reduceIte]
      have hz : ∃ z, r3 = .int z ∧ 0 ≤ z := by
        simp only [List.mem_cons, List.not_mem_nil, or_false] at hr3
        rcases hr3 with rfl | rfl | rfl <;> exact ⟨_, rfl, by decide⟩
      obtain ⟨z, rfl, hz⟩ := hz
      simp only [G3.wpSs, G3.wpS, G3.wpE, G3.wpEL, G3.wpO, G3.wpTO, G3.wpT, G3.wpAnd, G3.wpOr, G3.wpAndT, G3.wpOrT, G3.wpI, G3.wpG, G3.wpGs, G3.wipe3, G3.GV.d, G3.st3, G3.bi3, G3.me3, G3.Me.ty, G3.rets, List.replicate, G3.wl, Nat.reduceAdd, Nat.reduceSub, reduceIte]
      obtain ⟨hp1, hp2⟩ := put_free hp
      rw [put_comm (Ne.symm hpa), put_as]
      refine wk_sub (M' := put (put M a _) p _) ?_ (q _ xs4 (by omega))
      exact Sub.new (by rw [put_ne (Ne.symm hpa)]; exact hp1)
  · refine take_step put_same hf fun r2 xs2 h2 h3 => ?_
    simp only [put_as, G3.wpSs, G3.wpS, G3.wpE, G3.wpEL, G3.wpO, G3.wpTO, G3.wpT, G3.wpAnd, G3.wpOr, G3.wpAndT, G3.wpOrT, G3.wpI, G3.wpG, G3.wpGs, G3.wipe3, G3.GV.d, G3.st3, G3.bi3, G3.me3, G3.Me.ty, G3.rets, List.replicate, G3.wl, Nat.reduceAdd, Nat.reduceSub, reduceIte]
    exact wk.of (q _ _ (by omega))
/-- [draw for k in range(n)] -/
theorem lc_draw {a : Addr} {xs0 : List Int} {n v : Nat} {te : TE3} {τ : S3} {M1 : Mp} {Q : K3} (e : M1 a = some (.lst (xs0.map .int)))
    (hf : ∀ (i : Nat) (xs : List Int) (M : Mp), M a = some (.lst (xs.map .int)) → ∀ Qe : K3, (∀ (r : Int) (xs' : List Int), Qe (.int r) (put M a (.lst (xs'.map .int)))) → te ((wipe3 τ [v]).set v (some (.int i))) M Qe)
    (hn : n < 16777216)
    (hQ : ∀ (rs xs : List Int), rs.length = n → ∀ p, M1 p = none → Q (.ref p) (put (put M1 a (.lst (xs.map .int))) p (.lst (rs.map .int)))) :
    lcW (rgD 0 1 n) (fun _ => True) (Tn.nm v) [v] (fun _ M Q => Q true M) te τ M1 Q := by
  intro p hp
  have hap : a ≠ p := fun z => by subst z; rw [hp] at e; cases e
  refine ⟨fun i acc M => ∃ rs xs : List Int, rs.length = i ∧ acc = rs.map .int ∧ M = put (put M1 a (.lst (xs.map .int))) p (.lst acc), ⟨[], xs0, rfl, rfl, by rw [put_self e]⟩, ?_⟩
  rintro i acc M ⟨rs, xs, hr, rfl, rfl⟩ hi
  rw [rgD_length] at hi ⊢
  refine ⟨trivial, put_same, fun d hd => ?_, fun ei => ?_⟩
  · obtain ⟨hi2, rfl⟩ := rgD_get hd
    simp only [G3.wpG, if_true]
    rw [show ((0 : Int) + (i : Nat) * 1) = i by omega]
    refine hf i xs _ (by rw [put_ne hap, put_same]) _ fun r xs' => ⟨by rw [List.length_map, sline]; omega, by rw [put_ne (Ne.symm hap), put_same], wk.of ⟨rs ++ [r], xs', by rw [List.length_append, hr]; rfl, by rw [List.map_append]; rfl, ?_⟩⟩
    rw [put_comm (Ne.symm hap), put_put, put_put]
  · exact wk.of (hQ rs xs (by omega) p hp)
def sp_wheels : Sp3 := fun ds M Q => ∃ (a : Addr) (xs : List Int) (p q : Nat), ds = [.ref a, .int p, .int q] ∧ M a = some (.lst (xs.map .int)) ∧ p ≤ 100 ∧ q ≤ 100 ∧ ∀ w0 w1 xs' : List Int, w0.length = p → w1.length = q → Q (whl w0 w1) (put M a (.lst (xs'.map .int)))
theorem t__law_tide_wheels : ∀ ds M Q, sp_wheels ds M Q → G3.wpSs (b__law_tide_wheels sp__law_tide_number) (rets Q) (st3 n__law_tide_wheels.length ds) M := by
  rintro ds M Q ⟨a, xs, p, q, rfl, e, hp, hq, h⟩
  simp only [n__law_tide_wheels, b__law_tide_wheels, Int.toNat_natCast, G3.wpSs, G3.wpS, G3.wpE, G3.wpEL, G3.wpO, G3.wpTO, G3.wpT, G3.wpAnd, G3.wpOr, G3.wpAndT, G3.wpOrT, G3.wpI, G3.wpG, G3.wpGs, G3.wipe3, G3.GV.d, G3.st3, G3.bi3, G3.me3, G3.Me.ty, G3.rets, List.replicate, G3.wl, Nat.reduceAdd, Nat.reduceSub, reduceIte]
  refine ⟨by omega, by omega, lc_draw e (fun i xs1 M1 e1 Qe k => ?_) (by omega) fun w0 xs1 hw0 p1 hp1 => ?_⟩
  · simp only [G3.wpSs, G3.wpS, G3.wpE, G3.wpEL, G3.wpO, G3.wpTO, G3.wpT, G3.wpAnd, G3.wpOr, G3.wpAndT, G3.wpOrT, G3.wpI, G3.wpG, G3.wpGs, G3.wipe3, G3.GV.d, G3.st3, G3.bi3, G3.me3, G3.Me.ty, G3.rets, List.replicate, G3.wl, Nat.reduceAdd, Nat.reduceSub, reduceIte]
    exact ⟨a, xs1, rfl, e1, k⟩
  · have hap : a ≠ p1 := fun z => by subst z; rw [hp1] at e; cases e
    simp only [listAt_ref put_same, seqAt_ref put_same, G3.wpSs, G3.wpS, G3.wpE, G3.wpEL, G3.wpO, G3.wpTO, G3.wpT, G3.wpAnd, G3.wpOr, G3.wpAndT, G3.wpOrT, G3.wpI, G3.wpG, G3.wpGs, G3.wipe3, G3.GV.d, G3.st3, G3.bi3, G3.me3, G3.Me.ty, G3.rets, List.replicate, G3.wl, Nat.reduceAdd, Nat.reduceSub, reduceIte]
    refine ⟨by omega, by omega, lc_draw (xs0 := xs1) (by rw [put_ne hap, put_same]) (fun i xs1 M1 e1 Qe k => ?_) (by omega) fun w1 xs2 hw1 p2 hp2 => ?_⟩
    · simp only [G3.wpSs, G3.wpS, G3.wpE, G3.wpEL, G3.wpO, G3.wpTO, G3.wpT, G3.wpAnd, G3.wpOr, G3.wpAndT, G3.wpOrT, G3.wpI, G3.wpG, G3.wpGs, G3.wipe3, G3.GV.d, G3.st3, G3.bi3, G3.me3, G3.Me.ty, G3.rets, List.replicate, G3.wl, Nat.reduceAdd, Nat.reduceSub, reduceIte]
      exact ⟨a, xs1, rfl, e1, k⟩
    · simp only [listAt_ref put_same, seqAt_ref put_same, G3.wpSs, G3.wpS, G3.wpE, G3.wpEL, G3.wpO, G3.wpTO, G3.wpT, G3.wpAnd, G3.wpOr, G3.wpAndT, G3.wpOrT, G3.wpI, G3.wpG, G3.wpGs, G3.wipe3, G3.GV.d, G3.st3, G3.bi3, G3.me3, G3.Me.ty, G3.rets, List.replicate, G3.wl, Nat.reduceAdd, Nat.reduceSub, reduceIte]
      obtain ⟨g1, g2⟩ := put_free hp2
      refine wk_sub (M' := put (put (put (put M a _) p1 _) a _) p2 _) ?_ (h w0 w1 xs2 hw0 hw1)
      rw [put_comm (Ne.symm hap), put_put]
      exact (Sub.new (by rw [put_ne (Ne.symm hap)]; exact hp1)).put_free (by rw [put_ne (fun z => by subst z; obtain ⟨g3, g4⟩ := put_free g1; rw [e] at g3; cases g3)]; exact (put_free g1).1)
theorem t__law_low_wheels : ∀ ds M Q, sp_wheels ds M Q → G3.wpSs (b__law_low_wheels sp__law_take) (rets Q) (st3 n__law_low_wheels.length ds) M := by
  rintro ds M Q ⟨a, xs, p, q, rfl, e, hp, hq, h⟩
  simp only [n__law_low_wheels, b__law_low_wheels, Int.toNat_natCast, G3.wpSs, G3.wpS, G3.wpE, G3.wpEL, G3.wpO, G3.wpTO, G3.wpT, G3.wpAnd, G3.wpOr, G3.wpAndT, G3.wpOrT, G3.wpI, G3.wpG, G3.wpGs, G3.wipe3, G3.GV.d, G3.st3, G3.bi3, G3.me3, G3.Me.ty, G3.rets, List.replicate, G3.wl, Nat.reduceAdd, Nat.reduceSub, reduceIte]
  refine ⟨by omega, by omega, lc_draw e (fun i xs1 M1 e1 Qe k => ?_) (by omega) fun w0 xs1 hw0 p1 hp1 => ?_⟩
  · simp only [G3.wpSs, G3.wpS, G3.wpE, G3.wpEL, G3.wpO, G3.wpTO, G3.wpT, G3.wpAnd, G3.wpOr, G3.wpAndT, G3.wpOrT, G3.wpI, G3.wpG, G3.wpGs, G3.wipe3, G3.GV.d, G3.st3, G3.bi3, G3.me3, G3.Me.ty, G3.rets, List.replicate, G3.wl, Nat.reduceAdd, Nat.reduceSub, reduceIte]
    exact take_step e1 (by decide) fun r xs' _ _ => k r xs'
  · have hap : a ≠ p1 := fun z => by subst z; rw [hp1] at e; cases e
    simp only [listAt_ref put_same, seqAt_ref put_same, G3.wpSs, G3.wpS, G3.wpE, G3.wpEL, G3.wpO, G3.wpTO, G3.wpT, G3.wpAnd, G3.wpOr, G3.wpAndT, G3.wpOrT, G3.wpI, G3.wpG, G3.wpGs, G3.wipe3, G3.GV.d, G3.st3, G3.bi3, G3.me3, G3.Me.ty, G3.rets, List.replicate, G3.wl, Nat.reduceAdd, Nat.reduceSub, reduceIte]
    refine ⟨by omega, by omega, lc_draw (xs0 := xs1) (by rw [put_ne hap, put_same]) (fun i xs1 M1 e1 Qe k => ?_) (by omega) fun w1 xs2 hw1 p2 hp2 => ?_⟩
    · simp only [G3.wpSs, G3.wpS, G3.wpE, G3.wpEL, G3.wpO, G3.wpTO, G3.wpT, G3.wpAnd, G3.wpOr, G3.wpAndT, G3.wpOrT, G3.wpI, G3.wpG, G3.wpGs, G3.wipe3, G3.GV.d, G3.st3, G3.bi3, G3.me3, G3.Me.ty, G3.rets, List.replicate, G3.wl, Nat.reduceAdd, Nat.reduceSub, reduceIte]
      exact take_step e1 (by decide) fun r xs' _ _ => k r xs'
    · simp only [listAt_ref put_same, seqAt_ref put_same, G3.wpSs, G3.wpS, G3.wpE, G3.wpEL, G3.wpO, G3.wpTO, G3.wpT, G3.wpAnd, G3.wpOr, G3.wpAndT, G3.wpOrT, G3.wpI, G3.wpG, G3.wpGs, G3.wipe3, G3.GV.d, G3.st3, G3.bi3, G3.me3, G3.Me.ty, G3.rets, List.replicate, G3.wl, Nat.reduceAdd, Nat.reduceSub, reduceIte]
      obtain ⟨g1, g2⟩ := put_free hp2
      refine wk_sub (M' := put (put (put (put M a _) p1 _) a _) p2 _) ?_ (h w0 w1 xs2 hw0 hw1)
      rw [put_comm (Ne.symm hap), put_put]
      exact (Sub.new (by rw [put_ne (Ne.symm hap)]; exact hp1)).put_free (by rw [put_ne (fun z => by subst z; obtain ⟨g3, g4⟩ := put_free g1; rw [e] at g3; cases g3)]; exact (put_free g1).1)
/-! ### the law's own heights -/
theorem t__law_tide_height : ∀ ds M Q, sp_height_at ds M Q → G3.wpSs b__law_tide_height (rets Q) (st3 n__law_tide_height.length ds) M := by
  rintro ds M Q ⟨w0, w1, t, rfl, h0, h1, q⟩
  obtain ⟨a1, a2, a3⟩ := emod_in (t := t) h0
  obtain ⟨b1, b2, b3⟩ := emod_in (t := t) h1
  simp only [n__law_tide_height, b__law_tide_height, whl, encI, G3.wpSs, G3.wpS, G3.wpE, G3.wpEL, G3.wpO, G3.wpTO, G3.wpT, G3.wpAnd, G3.wpOr, G3.wpAndT, G3.wpOrT, G3.wpI, G3.wpG, G3.wpGs, G3.wipe3, G3.GV.d, G3.st3, G3.bi3, G3.me3, G3.Me.ty, G3.rets, List.replicate, G3.wl, Nat.reduceAdd, Nat.reduceSub, reduceIte]
  rw [atI_ints a2 a3, atI_ints b2 b3]
  simp only [G3.wpSs, G3.wpS, G3.wpE, G3.wpEL, G3.wpO, G3.wpTO, G3.wpT, G3.wpAnd, G3.wpOr, G3.wpAndT, G3.wpOrT, G3.wpI, G3.wpG, G3.wpGs, G3.wipe3, G3.GV.d, G3.st3, G3.bi3, G3.me3, G3.Me.ty, G3.rets, List.replicate, G3.wl, Nat.reduceAdd, Nat.reduceSub, reduceIte]
  exact ⟨a1, b1, wk.of q⟩
theorem t__law_tide_round : ∀ ds M Q, sp_round_heights ds M Q → G3.wpSs (b__law_tide_round sp__law_gcd sp_height_at) (rets Q) (st3 n__law_tide_round.length ds) M := by
  rintro ds M Q ⟨w0, w1, rfl, w, q⟩
  have hl := lcm_le w.l0 w.l1
  have l0 := w.l0
  have l1 := w.l1
  have p0 := List.length_pos_iff.mpr w.h0
  simp only [n__law_tide_round, b__law_tide_round, whl, encI, G3.wpSs, G3.wpS, G3.wpE, G3.wpEL, G3.wpO, G3.wpTO, G3.wpT, G3.wpAnd, G3.wpOr, G3.wpAndT, G3.wpOrT, G3.wpI, G3.wpG, G3.wpGs, G3.wipe3, G3.GV.d, G3.st3, G3.bi3, G3.me3, G3.Me.ty, G3.rets, List.replicate, G3.wl, Nat.reduceAdd, Nat.reduceSub, reduceIte]
  have hm : w0.length * w1.length ≤ 10000 := Nat.mul_le_mul l0 l1
  refine ⟨MulOk_small (by omega) (by omega), w0.length, w1.length, rfl, by omega, ?_⟩
  have hg : 0 < Nat.gcd w0.length w1.length := Nat.gcd_pos_of_pos_left _ p0
  have hg2 : Nat.gcd w0.length w1.length ≤ w0.length := Nat.gcd_le_left _ p0
  have el : (w0.length : Int) * w1.length / (Nat.gcd w0.length w1.length : Nat) = (lcmN w0 w1 : Nat) := by
    unfold lcmN Nat.lcm
    rw [Int.natCast_ediv, Int.natCast_mul]
  simp only [G3.wpSs, G3.wpS, G3.wpE, G3.wpEL, G3.wpO, G3.wpTO, G3.wpT, G3.wpAnd, G3.wpOr, G3.wpAndT, G3.wpOrT, G3.wpI, G3.wpG, G3.wpGs, G3.wipe3, G3.GV.d, G3.st3, G3.bi3, G3.me3, G3.Me.ty, G3.rets, List.replicate, G3.wl, Nat.reduceAdd, Nat.reduceSub, reduceIte]
  rw [el]
  refine ⟨⟨by omega, .inl (by omega)⟩, by omega, by omega, ?_⟩
  refine lc_mp (fun k : Nat => .int (0 + k * 1)) (List.range (lcmN w0 w1)) (fun k : Nat => .int (hgt w0 w1 k)) (fun _ _ => trivial) (fun k hk M' sb Qe h => ?_) (by rw [List.length_range, sline]; omega) (newL_wk ?_)
  · simp only [G3.wpSs, G3.wpS, G3.wpE, G3.wpEL, G3.wpO, G3.wpTO, G3.wpT, G3.wpAnd, G3.wpOr, G3.wpAndT, G3.wpOrT, G3.wpI, G3.wpG, G3.wpGs, G3.wipe3, G3.GV.d, G3.st3, G3.bi3, G3.me3, G3.Me.ty, G3.rets, List.replicate, G3.wl, Nat.reduceAdd, Nat.reduceSub, reduceIte]
    refine ⟨w0, w1, _, rfl, w.h0, w.h1, ?_⟩
    rw [Int.mul_one, Int.zero_add]
    exact h _ .refl
  · unfold rh at q
    rw [List.map_map] at q
    exact q
theorem pick_step {M : Mp} {a p : Addr} {xs : List Int} {l : List D} {Q : K3} (e : M a = some (.lst (xs.map .int))) (ep : M p = some (.lst l)) (hap : a ≠ p) (hl : l ≠ []) (q : ∀ (r : D) (xs' : List Int), r ∈ l → Q r (put M a (.lst (xs'.map .int)))) : sp__law_pick [.ref a, .ref p] M Q := ⟨a, p, xs, l, rfl, e, ep, hap, hl, q⟩
theorem hour_step {M : Mp} {a : Addr} {xs : List Int} {m : Int} {Q : K3} (e : M a = some (.lst (xs.map .int))) (hm : 0 < m) (q : ∀ (r : Int) (xs' : List Int), Q (.int r) (put M a (.lst (xs'.map .int)))) : sp__law_tide_hour [.ref a, .int m] M Q := ⟨a, xs, m, rfl, e, hm, fun r xs' _ => q r xs'⟩
theorem mem_ints {r : D} {l : List Int} (h : r ∈ l.map D.int) : ∃ z, r = .int z := by
  obtain ⟨z, _, e⟩ := List.mem_map.mp h
  exact ⟨z, e.symm⟩
/-- the draws at a may have gone on -/
def Go (M : Mp) (a : Addr) (M' : Mp) : Prop := ∃ xs : List Int, Sub (put M a (.lst (xs.map .int))) M'
theorem Go.at {M M' : Mp} {a : Addr} (g : Go M a M') : ∃ xs : List Int, M' a = some (.lst (xs.map .int)) := by
  obtain ⟨xs, s⟩ := g
  exact ⟨xs, s _ _ put_same⟩
theorem Go.put {M M' : Mp} {a : Addr} (g : Go M a M') (xs : List Int) : Go M a (put M' a (.lst (xs.map .int))) := by
  obtain ⟨xs', s⟩ := g
  refine ⟨xs, ?_⟩
  have := s.put a (.lst (xs.map .int))
  rwa [put_put] at this
theorem Go.sub {M M' M'' : Mp} {a : Addr} (g : Go M a M') (s : Sub M' M'') : Go M a M'' := by
  obtain ⟨xs', s'⟩ := g
  exact ⟨xs', s'.trans s⟩
theorem Go.refl {M : Mp} {a : Addr} {xs : List Int} (e : M a = some (.lst (xs.map .int))) : Go M a M := ⟨xs, by rw [put_self e]; exact .refl⟩
theorem Go.keep {M M' : Mp} {a p : Addr} {o : MO} (g : Go M a M') (e : M p = some o) (h : p ≠ a) : M' p = some o := by
  obtain ⟨xs', s'⟩ := g
  exact s' _ _ (by rw [put_ne h]; exact e)
theorem Go.trans {M M' M'' : Mp} {a : Addr} (g : Go M a M') (h : Go M' a M'') : Go M a M'' := by
  obtain ⟨xs', s'⟩ := h
  exact (g.put xs').sub s'
theorem Go.ne {M : Mp} {a p : Addr} {xs : List Int} (e : M a = some (.lst (xs.map .int))) (h : M p = none) : p ≠ a := fun z => by subst z; rw [e] at h; cases h
theorem same_ok {d : D} {M : Mp} {Q : K3} (f : okF d) (q : Q (.bl true) M) : sp__law_same 2 [d, d] M Q := ⟨d, d, rfl, same_one f, q⟩
def optD : Option Int → D
  | none => .non
  | some x => .int x
theorem fm_filter {f : Int → Int} {P : Int → Bool} : ∀ l : List Int, l.filterMap (fun o => if P o = true then some (D.int (f o)) else none) = ((l.filter P).map f).map .int
  | [] => rfl
  | a :: l => by
    rw [List.filterMap_cons, List.filter_cons]
    by_cases h : P a = true
    · simp only [if_pos h]; rw [fm_filter l]; rfl
    · simp only [if_neg h]; rw [fm_filter l]
theorem okF_opt : ∀ o : Option Int, okF (optD o)
  | none => trivial
  | some _ => trivial
end G3w
set_option Elab.async false
set_option linter.all false
set_option maxRecDepth 100000
set_option maxHeartbeats 4000000
/-! more short rules -/
namespace G3w
open L2 G3
theorem cut_to {l : List D} {p : Nat} (h : p ≤ l.length) : cutD l none (some (p : Int)) = l.take p := by
  unfold cutD
  rw [HT.sIx_none, HT.sIx_nat, Nat.min_eq_left h, List.drop_zero, Nat.sub_zero]
theorem cut_from {l : List D} {p : Nat} (h : p ≤ l.length) : cutD l (some (p : Int)) none = l.drop p := by
  unfold cutD
  rw [HT.sIx_none, HT.sIx_nat, Nat.min_eq_left h, List.take_of_length_le (by rw [List.length_drop]; exact Nat.le_refl _)]
theorem lc_bls {ds : List D} {keep : Mp → Prop} {tn : Tn} {vs : List Nat} {te : TE3} {τ : S3} {M1 : Mp} {Q : K3} (P : D → Bool) (hk : ∀ M, Sub M1 M → keep M)
    (hf : ∀ d ∈ ds, ∀ M, Sub M1 M → ∀ Qe : K3, (∀ M4, Sub M M4 → Qe (.bl (P d)) M4) → wpG tn d M (wipe3 τ vs) fun τ2 => te τ2 M Qe) (hl : ds.length < PySem.sizeLine) (hQ : newL ((ds.map P).map .bl) M1 Q) : lcW ds keep tn vs (fun _ M Q => Q true M) te τ M1 Q := by
  have := lc_mp id ds (fun d => D.bl (P d)) (keep := keep) (tn := tn) (vs := vs) (te := te) (τ := τ) (M1 := M1) (Q := Q) hk hf hl (by rw [List.map_map] at hQ; exact hQ)
  rwa [List.map_id] at this
theorem getZ_take {ws : List Int} {p : Nat} {i : Int} (h0 : 0 ≤ i) (h1 : i < p) : getZ (ws.take p) i = getZ ws i := by
  unfold getZ; rw [List.getD_eq_getElem?_getD, List.getD_eq_getElem?_getD, List.getElem?_take, if_pos (by omega)]
theorem getZ_drop {ws : List Int} {p : Nat} {i : Int} (h0 : 0 ≤ i) : getZ (ws.drop p) i = getZ ws (p + i) := by
  unfold getZ; rw [List.getD_eq_getElem?_getD, List.getD_eq_getElem?_getD, List.getElem?_drop, show p + i.toNat = ((p : Int) + i).toNat by omega]
theorem getZ_map {ws : List Int} {f : Int → Int} {i : Int} (h0 : 0 ≤ i) (h1 : i < ws.length) : getZ (ws.map f) i = f (getZ ws i) := by
  unfold getZ
  rw [List.getD_eq_getElem?_getD, List.getD_eq_getElem?_getD, List.getElem?_map, List.getElem?_eq_getElem (by omega)]; rfl
theorem getZ_mem {ws : List Int} {i : Int} (h0 : 0 ≤ i) (h1 : i < ws.length) : getZ ws i ∈ ws := by
  unfold getZ
  rw [List.getD_eq_getElem?_getD, List.getElem?_eq_getElem (by omega)]
  exact List.getElem_mem _
theorem getZ_get {ws : List Int} {i : Nat} (h1 : i < ws.length) : ws[i]? = some (getZ ws i) := by
  unfold getZ
  rw [List.getD_eq_getElem?_getD, Int.toNat_natCast, List.getElem?_eq_getElem h1]; rfl
theorem getZ_of {ws : List Int} {i : Nat} {v : Int} (h : ws[i]? = some v) : getZ ws i = v := by
  unfold getZ
  rw [List.getD_eq_getElem?_getD, Int.toNat_natCast, h]; rfl
end G3w
namespace G3w
open L2 G3
/-! ### a table: a list of rows, each at a place of its own -/
structure TbAt (M0 M : Mp) (t : G3w.Addr) (rs : List G3w.Addr) (rows : List (List D)) : Prop where
  top : M t = some (.lst (rs.map .ref))
  len : rs.length = rows.length
  nd : rs.Nodup
  nt : t ∉ rs
  row : ∀ (i : Nat) (r : G3w.Addr) (l : List D), rs[i]? = some r → rows[i]? = some l → M r = some (.lst l)
  new : ∀ r ∈ rs, M0 r = none
  newt : M0 t = none
  sub : Sub M0 M
theorem TbAt.mem {M0 M : Mp} {t : G3w.Addr} {rs : List G3w.Addr} {rows : List (List D)} (T : TbAt M0 M t rs rows) {r : G3w.Addr} (h : r ∈ rs) : ∃ l, M r = some (.lst l) := by
  obtain ⟨i, hi, e⟩ := List.getElem_of_mem h
  have hl := T.len
  exact ⟨_, T.row i r _ (by rw [List.getElem?_eq_getElem hi, e]) (List.getElem?_eq_getElem (by omega))⟩
theorem TbAt.ix {M0 M : Mp} {t : G3w.Addr} {rs : List G3w.Addr} {rows : List (List D)} {Q : G3w.K3} (T : TbAt M0 M t rs rows) {i : Int} (h0 : 0 ≤ i) (h1 : i < rows.length) : ix3 (.ref t) (.int i) M Q = Q (.ref (rs.getD i.toNat t)) M := by
  have hl := T.len
  rw [ix3_ref T.top, atI_map, atI_some h0 (by omega), List.getD_eq_getElem?_getD, List.getElem?_eq_getElem (by omega)]
  rfl
theorem TbAt.get {M0 M : Mp} {t : G3w.Addr} {rs : List G3w.Addr} {rows : List (List D)} (T : TbAt M0 M t rs rows) {i : Nat} (h1 : i < rows.length) : rs.getD i t ∈ rs ∧ rs[i]? = some (rs.getD i t) ∧ M (rs.getD i t) = some (.lst (rows.getD i [])) := by
  have hl := T.len
  have e : rs[i]? = some (rs.getD i t) := by
    rw [List.getD_eq_getElem?_getD, List.getElem?_eq_getElem (by omega)]; rfl
  have e2 : rows[i]? = some (rows.getD i []) := by
    rw [List.getD_eq_getElem?_getD, List.getElem?_eq_getElem (by omega)]; rfl
  exact ⟨List.mem_of_getElem? e, e, T.row _ _ _ e e2⟩
theorem TbAt.set {M0 M : Mp} {t : G3w.Addr} {rs : List G3w.Addr} {rows : List (List D)} (T : TbAt M0 M t rs rows) {i : Nat} (h1 : i < rows.length) (l : List D) : TbAt M0 (put M (rs.getD i t) (.lst l)) t rs (rows.set i l) := by
  obtain ⟨hm, e, em⟩ := T.get h1
  have hl := T.len
  refine ⟨?_, by rw [List.length_set]; exact hl, T.nd, T.nt, fun j r l' hr hl' => ?_, T.new, T.newt, T.sub.put_free (T.new _ hm)⟩
  · rw [put_ne (fun z => T.nt (by rw [z]; exact hm))]; exact T.top
  · rw [List.getElem?_set] at hl'
    by_cases c : i = j
    · subst c
      rw [if_pos rfl, if_pos h1] at hl'
      cases hl'
      rw [e] at hr; cases hr
      exact put_same
    · rw [if_neg c] at hl'
      have hne : r ≠ rs.getD i t := fun z => by
        subst z
        have hi : i < rs.length := by omega
        have hj : j < rs.length := (List.getElem?_eq_some_iff.mp hr).1
        have e3 : rs[i]? = rs[j]? := by rw [e, hr]
        exact c ((List.getElem?_inj hi T.nd).mp e3)
      rw [put_ne hne]
      exact T.row j r l' hr hl'
theorem TbAt.sub_ {M0 M M' : Mp} {t : G3w.Addr} {rs : List G3w.Addr} {rows : List (List D)} (T : TbAt M0 M t rs rows) (s : Sub M M') : TbAt M0 M' t rs rows :=
  ⟨s _ _ T.top, T.len, T.nd, T.nt, fun i r l h1 h2 => s _ _ (T.row i r l h1 h2), T.new, T.newt, T.sub.trans s⟩
theorem Sub.none {M M' : Mp} (s : Sub M M') {a : G3w.Addr} (h : M' a = none) : M a = none := by
  cases z : M a with
  | none => rfl
  | some o => rw [s _ _ z] at h; cases h
theorem lc_rows {α : Type} (g : α → D) (l : List α) (f : α → List D) {keep : Mp → Prop} {tn : Tn} {vs : List Nat} {te : TE3} {τ : S3} {M1 : Mp} {Q : K3} (hk : ∀ M, Sub M1 M → keep M)
    (hf : ∀ a ∈ l, ∀ M, Sub M1 M → ∀ Qe : K3, (∀ r M4, M r = none → Sub M M4 → M4 r = some (.lst (f a)) → Qe (.ref r) M4) → wpG tn (g a) M (wipe3 τ vs) fun τ2 => te τ2 M Qe)
    (hl : l.length < PySem.sizeLine)
    (hQ : ∀ t rs M', TbAt M1 M' t rs (l.map f) → Q (.ref t) M') : lcW (l.map g) keep tn vs (fun _ M Q => Q true M) te τ M1 Q := by
  intro p hp
  refine ⟨fun i acc M => ∃ rs, acc = rs.map .ref ∧ TbAt M1 M p rs ((l.take i).map f), ⟨[], rfl, put_same, rfl, List.nodup_nil, by simp, by simp, by simp, hp, .new hp⟩, ?_⟩
  rintro i acc M ⟨rs, rfl, T⟩ hi
  rw [List.length_map] at hi ⊢
  have hln : rs.length = i := by rw [T.len, List.length_map, List.length_take]; omega
  refine ⟨hk _ T.sub, T.top, fun d hd => ?_, fun e => ?_⟩
  · rw [List.getElem?_map] at hd
    cases ea : l[i]? with
    | none => rw [ea] at hd; cases hd
    | some a =>
      rw [ea] at hd; cases hd
      refine hf a (List.mem_of_getElem? ea) M T.sub _ fun r M4 hr sb er => ?_
      have hrp : r ≠ p := fun z => by subst z; rw [T.top] at hr; cases hr
      have hrr : r ∉ rs := fun z => by
        obtain ⟨l', e'⟩ := T.mem z
        rw [e'] at hr; cases hr
      refine ⟨by first | (rw [List.length_map, hln]; omega) | (rw [hln]; omega), sb _ _ T.top, .of ⟨rs ++ [r], by rw [List.map_append]; rfl, ?_⟩⟩
      have et : (l.take (i + 1)).map f = (l.take i).map f ++ [f a] := by rw [List.take_add_one, ea, List.map_append]; rfl
      have hlt : ((l.take i).map f).length = i := by rw [← T.len]; exact hln
      refine ⟨?_, ?_, ?_, ?_, ?_, ?_, hp, (T.sub.trans sb).put_free hp⟩
      · rw [put_same, List.map_append]; rfl
      · rw [et, List.length_append, List.length_append, T.len]; rfl
      · rw [List.nodup_append]
        refine ⟨T.nd, by simp, fun x hx y hy => ?_⟩
        rw [List.mem_singleton] at hy
        subst hy
        exact fun z => hrr (z ▸ hx)
      · intro h
        rcases List.mem_append.mp h with h | h
        · exact T.nt h
        · rw [List.mem_singleton] at h; exact hrp h.symm
      · intro j r' l' h1 h2
        rw [et] at h2
        by_cases c : j < i
        · rw [List.getElem?_append_left (by omega)] at h1
          rw [List.getElem?_append_left (by omega)] at h2
          have hm := List.mem_of_getElem? h1
          rw [put_ne (fun z => T.nt (by rw [← z]; exact hm))]
          exact sb _ _ (T.row j r' l' h1 h2)
        · have hj := (List.getElem?_eq_some_iff.mp h1).1
          rw [List.length_append, hln] at hj
          have ej : j = i := by simp at hj; omega
          subst ej
          rw [List.getElem?_append_right (by omega), hln, Nat.sub_self] at h1
          rw [List.getElem?_append_right (by omega), hlt, Nat.sub_self] at h2
          cases h1; cases h2
          rw [put_ne hrp]; exact er
      · intro r' h
        rcases List.mem_append.mp h with h | h
        · exact T.new _ h
        · rw [List.mem_singleton] at h; subst h; exact Sub.none T.sub hr
  · subst e
    rw [List.length_map, List.take_length] at T
    exact .of (hQ _ _ _ T)
end G3w
namespace G3w
open L2 G3
theorem inF_bls {bs : List Bool} : inF (.bl false) (bs.map .bl) = !bs.all id := by
  unfold inF
  induction bs with
  | nil => rfl
  | cons b bs ih =>
    rw [List.map_cons, List.any_cons, ih, List.all_cons]
    cases b <;> simp [eqF]
theorem inF_blt {bs : List Bool} : inF (.bl true) (bs.map .bl) = bs.any id := by
  unfold inF
  induction bs with
  | nil => rfl
  | cons b bs ih =>
    rw [List.map_cons, List.any_cons, ih, List.any_cons]
    cases b <;> simp [eqF]
theorem flat_bls {bs : List Bool} : (bs.map D.bl).all flatD = true := by
  rw [List.all_map, List.all_eq_true]
  intro x _; rfl
end G3w
namespace G3w
open L2 G3
/-- a loop that leaves the heap but for what is new -/
theorem forW_sub {ds : List D} {keep : Mp → Prop} {tn : Tn} {body : TS3} {D_ : Ends3} {τ0 : S3} {M1 : Mp} (T : S3 → Prop) (hT : T τ0) (hk : ∀ M, Sub M1 M → keep M)
    (hb : ∀ d ∈ ds, ∀ τ M, T τ → Sub M1 M → wpG tn d M τ fun τ2 => body { D_ with nx := fun τ M => wk (fun M => T τ ∧ Sub M1 M) M, ct := fun τ M => wk (fun M => T τ ∧ Sub M1 M) M, bk := D_.nx } τ2 M)
    (hQ : ∀ τ M, T τ → Sub M1 M → D_.nx τ M) : forW ds keep tn body D_ τ0 M1 := by
  refine ⟨fun i τ M => T τ ∧ Sub M1 M, ⟨hT, .refl⟩, ?_⟩
  rintro i τ M ⟨h, sb⟩ hi
  exact ⟨hk M sb, fun d hd => hb d (List.mem_of_getElem? hd) τ M h sb, fun _ => .of (hQ τ M h sb)⟩
theorem Go.put_new {M M' : Mp} {a t : G3w.Addr} {o : MO} (g : Go M a M') (h : M t = none) (hta : t ≠ a) : Go M a (G3.put M' t o) := by
  obtain ⟨xs, s⟩ := g
  exact ⟨xs, s.put_free (by rw [put_ne hta]; exact h)⟩
theorem Go.fresh {M M' : Mp} {a u : G3w.Addr} (g : Go M a M') (h : M' u = none) : M u = none ∧ u ≠ a := by
  obtain ⟨xs, s⟩ := g
  have h2 := Sub.none s h
  obtain ⟨h3, h4⟩ := put_free h2
  exact ⟨h3, h4⟩
theorem Go.new {M M' : Mp} {a u : G3w.Addr} {o : MO} (g : Go M a M') (h : M' u = none) : Go M a (G3.put M' u o) := let ⟨h1, h2⟩ := g.fresh h; g.put_new h1 h2
end G3w
set_option Elab.async false
set_option linter.all false
set_option maxRecDepth 100000
set_option maxHeartbeats 4000000
/-! more short rules -/
namespace G3w
open L2 G3
/-- a loop whose word need not name what it walks over -/
theorem forW_k {ds : List D} {keep : Mp → Prop} {tn : Tn} {body : TS3} {D_ : Ends3} {τ0 : S3} {M1 : Mp} (T : S3 → Prop) (J : Nat → Mp → Prop) (hT : T τ0) (h0 : J 0 M1) (hk : keep M1)
    (hb : ∀ i d, ds[i]? = some d → ∀ τ M, T τ → J i M → keep M → wpG tn d M τ fun τ2 => body { D_ with nx := fun τ M => wk (fun M => T τ ∧ J (i + 1) M ∧ keep M) M, ct := fun τ M => wk (fun M => T τ ∧ J (i + 1) M ∧ keep M) M, bk := D_.nx } τ2 M)
    (hQ : ∀ τ M, T τ → J ds.length M → keep M → D_.nx τ M) : forW ds keep tn body D_ τ0 M1 := by
  refine ⟨fun i τ M => T τ ∧ J i M ∧ keep M, ⟨hT, h0, hk⟩, ?_⟩
  rintro i τ M ⟨h, j, k⟩ hi
  refine ⟨k, fun d hd => hb i d hd τ M h j k, fun e => ?_⟩
  subst e
  exact .of (hQ τ M h j k)
theorem refL_put {M : Mp} {p : G3w.Addr} {l : List D} {f : G3w.Addr → List D → Prop} : refL (.ref p) (G3.put M p (.lst l)) f = f p l := refL_ref put_same
theorem isTyM_put {M : Mp} {p : G3w.Addr} {l : List D} {T : String} : isTyM T (.ref p) (G3.put M p (.lst l)) = (T = "list") := isTyM_ref put_same
end G3w
set_option Elab.async false
set_option linter.all false
set_option maxRecDepth 100000
set_option maxHeartbeats 4000000
/-! wheels of two periods told from marks: bodies alike in many laws -/
namespace G5
open PySem PySem.Spec PyProof.Rows L2 G3
/-! do_wheels_fit -/
def n_do_wheels_fit : List Str := ["wheels", "marks", "hour", "height"]
def b_do_wheels_fit (sp_height_at : Sp3) : SL := (.cons (.ret (.bi .all (.cons (.lc [("hour", 2), ("height", 3)] (.tup (.cons (.nm 2) (.cons (.nm 3) .nil))) (.seq (.v 1)) .no (.cmp .eq (.call
  "height_at" sp_height_at (.cons (.v 0) (.cons (.v 2) .nil))) (.v 3))) .nil))) .nil)
/-! joined_rests -/
def n_joined_rests : List Str := ["p", "q", "hours", "labels", "hour", "low", "one", "other", "label"]
def r1_joined_rests : SL := (.cons (.ret (.v 3)) .nil)
def b_joined_rests : SL := (.cons (.set (.nm 3) (.lrg (.bin .add (.v 0) (.v 1)))) (.cons (.for_ (.nm 4) (.seq (.v 2)) (.cons (.set (.tup (.cons (.nm 6) (.cons (.nm 7) .nil))) (.tup (.cons (.ix (.v 3)
  (.bin .mod (.v 4) (.v 0))) (.cons (.ix (.v 3) (.bin .add (.v 0) (.bin .mod (.v 4) (.v 1)))) .nil)))) (.cons (.set (.nm 5) (.bi .min2 (.cons (.v 6) (.cons (.v 7) .nil)))) (.cons (.set (.nm 3) (.lc
  [("label", 8)] (.nm 8) (.seq (.v 3)) .no (.ite (.cmp .inn (.v 8) (.tup (.cons (.v 6) (.cons (.v 7) .nil)))) (.v 5) (.v 8)))) .nil)))) (r1_joined_rests)))
/-! told_wheels -/
def n_told_wheels : List Str := ["p", "q", "marks", "labels", "known", "changed", "wheels", "label", "hour", "height", "one", "other", "_", "place"]
def r1_told_wheels (sp_do_wheels_fit : Sp3) (sp_joined_rests : Sp3) : SL := (.cons (.set (.nm 6) (.tup (.cons (.bi .tuple (.cons (.lc [("place", 13)] (.nm 13) (.rng1 (.v 0)) .no (.ix (.v 4) (.v 13)))
  .nil)) (.cons (.bi .tuple (.cons (.lc [("place", 13)] (.nm 13) (.rng1 (.v 1)) .no (.ix (.v 4) (.bin .add (.v 0) (.v 13)))) .nil)) .nil)))) (.cons (.ret (.ite (.call "do_wheels_fit" sp_do_wheels_fit
  (.cons (.v 6) (.cons (.v 2) .nil))) (.v 6) (.c .non))) .nil))
def b_told_wheels (sp_do_wheels_fit : Sp3) (sp_joined_rests : Sp3) : SL := (.cons (.set (.nm 3) (.call "joined_rests" sp_joined_rests (.cons (.v 0) (.cons (.v 1) (.cons (.lc [("hour", 8), ("_", 12)]
  (.tup (.cons (.nm 8) (.cons (.nm 12) .nil))) (.seq (.v 2)) .no (.v 8)) .nil))))) (.cons (.set (.nm 4) (.dc [("label", 7)] (.nm 7) (.seq (.v 3)) .no (.v 7) (.c (.int 0)))) (.cons (.set (.nm 5) (.c
  (.bl true))) (.cons (.whil (.v 5) (.cons (.set (.nm 5) (.c (.bl false))) (.cons (.for_ (.tup (.cons (.nm 8) (.cons (.nm 9) .nil))) (.seq (.v 2)) (.cons (.par 10 11 (.bin .mod (.v 8) (.v 0)) (.bin
  .add (.v 0) (.bin .mod (.v 8) (.v 1)))) (.cons (.ite (.and (.cons (.cmp .inn (.v 10) (.v 4)) (.cons (.cmp .nin (.v 11) (.v 4)) .nil))) (.cons (.setSub (.v 4) (.v 11) (.bin .sub (.v 9) (.ix (.v 4)
  (.v 10)))) (.cons (.set (.nm 5) (.c (.bl true))) .nil)) (.cons (.ite (.and (.cons (.cmp .inn (.v 11) (.v 4)) (.cons (.cmp .nin (.v 10) (.v 4)) .nil))) (.cons (.setSub (.v 4) (.v 10) (.bin .sub (.v
  9) (.ix (.v 4) (.v 11)))) (.cons (.set (.nm 5) (.c (.bl true))) .nil)) .nil) .nil)) .nil))) .nil))) (r1_told_wheels sp_do_wheels_fit sp_joined_rests)))))
end G5
set_option Elab.async false
set_option linter.all false
set_option maxRecDepth 100000
set_option maxHeartbeats 4000000
namespace G5
open G3 L2 G3w
abbrev K3 := G3.K3
abbrev Addr := PySem.Addr
/-! ### dicts of ints -/
abbrev Key := L2.Key
def getI (e : List (Int × Int)) (k : Int) : Option Int := (e.find? fun p => decide (p.1 = k)).map (·.2)
def putI (e : List (Int × Int)) (k v : Int) : List (Int × Int) := if (e.any fun p => decide (p.1 = k)) = true then e.map (fun p => if p.1 = k then (p.1, v) else p) else e ++ [(k, v)]
def encD (e : List (Int × Int)) : List (Key × D) := e.map fun p => (.inl p.1, .int p.2)
theorem getK_enc {k : Int} : ∀ e : List (Int × Int), getK (encD e) (.inl k) = (getI e k).map .int
  | [] => rfl
  | p :: e => by
    have ih := getK_enc (k := k) e
    unfold getK getI encD at ih ⊢
    rw [List.map_cons, List.find?_cons, List.find?_cons]
    by_cases h : p.1 = k
    · subst h; simp
    · have h' : ¬ (Sum.inl p.1 : Key) = .inl k := fun z => h (Sum.inl.inj z)
      simp only [decide_eq_false h, decide_eq_false h']
      exact ih
theorem any_enc {k : Int} : ∀ e : List (Int × Int), ((encD e).any fun kv => decide (kv.1 = .inl k)) = e.any fun p => decide (p.1 = k)
  | [] => rfl
  | p :: e => by
    have ih := any_enc (k := k) e
    unfold encD at ih ⊢
    rw [List.map_cons, List.any_cons, List.any_cons, ih]
    by_cases h : p.1 = k
    · subst h; simp
    · have h' : ¬ (Sum.inl p.1 : Key) = .inl k := fun z => h (Sum.inl.inj z)
      simp only [decide_eq_false h, decide_eq_false h']
theorem putD_enc {e : List (Int × Int)} {k v : Int} : putD (encD e) (.inl k) (.int v) = encD (putI e k v) := by
  unfold putD putI
  rw [any_enc]
  split
  · unfold encD
    rw [List.map_map, List.map_map]
    refine List.map_congr_left fun p _ => ?_
    simp only [Function.comp]
    by_cases h : p.1 = k
    · subst h; simp
    · have h' : ¬ (Sum.inl p.1 : Key) = .inl k := fun z => h (Sum.inl.inj z)
      rw [if_neg h, if_neg h']
  · unfold encD; rw [List.map_append]; rfl
theorem any_get {e : List (Int × Int)} {k : Int} : (e.any fun p => decide (p.1 = k)) = (getI e k).isSome := by
  unfold getI
  induction e with
  | nil => rfl
  | cons p e ih =>
    rw [List.any_cons, List.find?_cons]
    by_cases h : p.1 = k
    · simp [h]
    · simp [h] at ih ⊢; exact ih
theorem get_put {e : List (Int × Int)} {k v j : Int} : getI (putI e k v) j = if j = k then some v else getI e j := by
  unfold putI
  split
  · rename_i h
    rw [any_get] at h
    unfold getI at *
    induction e with
    | nil => cases h
    | cons p e ih =>
      rw [List.map_cons, List.find?_cons, List.find?_cons]
      rw [List.find?_cons] at h
      by_cases c : p.1 = k
      · rw [if_pos c]
        by_cases d : j = k
        · rw [if_pos d]; simp [c, d]
        · rw [if_neg d]
          have d' : ¬ p.1 = j := fun z => d (by rw [← z, c])
          simp only [decide_eq_false d']
          clear h ih
          induction e with
          | nil => rfl
          | cons p' e ih' =>
            rw [List.map_cons, List.find?_cons, List.find?_cons]
            by_cases c' : p'.1 = k
            · rw [if_pos c']
              have : ¬ p'.1 = j := fun z => d (by rw [← z, c'])
              simp only [decide_eq_false this]; exact ih'
            · rw [if_neg c']
              by_cases c'' : p'.1 = j
              · simp [c'']
              · simp only [decide_eq_false c'']; exact ih'
      · rw [if_neg c]
        simp only [decide_eq_false c] at h
        by_cases d : p.1 = j
        · have : ¬ j = k := fun z => c (by rw [d, z])
          simp [d, this]
        · simp only [decide_eq_false d]; exact ih h
  · rename_i h
    rw [any_get, Bool.not_eq_true, Option.isSome_eq_false_iff, Option.isNone_iff_eq_none] at h
    unfold getI at *
    rw [List.find?_append]
    by_cases d : j = k
    · subst d
      rw [if_pos rfl]
      rw [Option.map_eq_none_iff] at h
      rw [h]; simp
    · rw [if_neg d]
      have : ([(k, v)].find? fun p => decide (p.1 = j)) = none := by simp; exact fun z => d z.symm
      rw [this, Option.or_none]
theorem put_len {e : List (Int × Int)} {k v : Int} (h : getI e k = none) : (putI e k v).length = e.length + 1 := by
  unfold putI
  rw [any_get, h]
  simp
theorem enc_len {e : List (Int × Int)} : (encD e).length = e.length := by unfold encD; rw [List.length_map]
/-! ### marks -/
abbrev Mk := List (Int × Int)
def encM (mk : Mk) : D := .tup (mk.map fun m => .tup [.int m.1, .int m.2])
def fitB (w0 w1 : List Int) (mk : Mk) : Bool := mk.all fun m => decide (hgt w0 w1 m.1 = m.2)
def sp_do_wheels_fit : Sp3 := fun ds M Q => ∃ w0 w1 mk, ds = [whl w0 w1, encM mk] ∧ w0 ≠ [] ∧ w1 ≠ [] ∧ mk.length ≤ 1000 ∧ Q (.bl (fitB w0 w1 mk)) M
theorem t_do_wheels_fit : ∀ ds M Q, sp_do_wheels_fit ds M Q → G3.wpSs (b_do_wheels_fit sp_height_at) (rets Q) (st3 n_do_wheels_fit.length ds) M := by
  rintro ds M Q ⟨w0, w1, mk, rfl, h0, h1, hl, q⟩
  simp only [n_do_wheels_fit, b_do_wheels_fit, encM, G3.wpSs, G3.wpS, G3.wpE, G3.wpEL, G3.wpO, G3.wpTO, G3.wpT, G3.wpAnd, G3.wpOr, G3.wpAndT, G3.wpOrT, G3.wpI, G3.wpG, G3.wpGs, G3.wipe3, G3.GV.d, G3.st3, G3.bi3, G3.me3, G3.Me.ty, G3.rets, List.replicate, G3.wl, Nat.reduceAdd, Nat.reduceSub, reduceIte]
  refine lc_mp _ mk (fun m => .bl (decide (hgt w0 w1 m.1 = m.2))) (fun _ _ => trivial) (fun a ha M' sb Qe h => ?_) (by rw [sline]; omega) ?_
  · simp only [G3.wpSs, G3.wpS, G3.wpE, G3.wpEL, G3.wpO, G3.wpTO, G3.wpT, G3.wpAnd, G3.wpOr, G3.wpAndT, G3.wpOrT, G3.wpI, G3.wpG, G3.wpGs, G3.wipe3, G3.GV.d, G3.st3, G3.bi3, G3.me3, G3.Me.ty, G3.rets, List.replicate, G3.wl, Nat.reduceAdd, Nat.reduceSub, reduceIte]
    refine ⟨w0, w1, a.1, rfl, h0, h1, ?_⟩
    simp only [G3.wpSs, G3.wpS, G3.wpE, G3.wpEL, G3.wpO, G3.wpTO, G3.wpT, G3.wpAnd, G3.wpOr, G3.wpAndT, G3.wpOrT, G3.wpI, G3.wpG, G3.wpGs, G3.wipe3, G3.GV.d, G3.st3, G3.bi3, G3.me3, G3.Me.ty, G3.rets, List.replicate, G3.wl, Nat.reduceAdd, Nat.reduceSub, reduceIte]
    exact h _ .refl
  · intro p hp
    rw [show (mk.map fun m => D.bl (decide (hgt w0 w1 m.1 = m.2))) = (mk.map fun m => decide (hgt w0 w1 m.1 = m.2)).map .bl by rw [List.map_map]; rfl]
    simp only [listAt_ref put_same, bls_map, G3.wpSs, G3.wpS, G3.wpE, G3.wpEL, G3.wpO, G3.wpTO, G3.wpT, G3.wpAnd, G3.wpOr, G3.wpAndT, G3.wpOrT, G3.wpI, G3.wpG, G3.wpGs, G3.wipe3, G3.GV.d, G3.st3, G3.bi3, G3.me3, G3.Me.ty, G3.rets, List.replicate, G3.wl, Nat.reduceAdd, Nat.reduceSub, reduceIte]
    refine wk_new hp ?_
    have : ((mk.map fun m => decide (hgt w0 w1 m.1 = m.2)).all id) = fitB w0 w1 mk := by unfold fitB; rw [List.all_map]; rfl
    rw [this]; exact q
end G5
set_option Elab.async false
set_option linter.all false
set_option maxRecDepth 100000
set_option maxHeartbeats 4000000
namespace G5
open G3 L2 G3w
structure Join (p q : Nat) (hs L : List Int) : Prop where
  len : L.length = p + q
  lab : ∀ x : Int, 0 ≤ x → x < (p : Int) + q → 0 ≤ getZ L x ∧ getZ L x < (p : Int) + q ∧ getZ L (getZ L x) = getZ L x
  eq : ∀ h ∈ hs, getZ L (h % p) = getZ L (p + h % q)
  le : ∀ x : Int, 0 ≤ x → x < (p : Int) + q → getZ L x ≤ x
  con : ∀ S : Int → Prop, (∀ h ∈ hs, S (h % p) ↔ S (p + h % q)) → ∀ x : Int, 0 ≤ x → x < (p : Int) + q → (S x ↔ S (getZ L x))
theorem getZ_map {L : List Int} {f : Int → Int} {x : Int} (h0 : 0 ≤ x) (h1 : x < L.length) : getZ (L.map f) x = f (getZ L x) := by
  unfold getZ
  rw [List.getD_eq_getElem?_getD, List.getD_eq_getElem?_getD, List.getElem?_map, List.getElem?_eq_getElem (by omega)]
  rfl
theorem rA {p q : Nat} (hp : 0 < p) (h : Int) : 0 ≤ h % p ∧ h % p < (p : Int) + q := by
  have := Int.emod_nonneg h (show (p : Int) ≠ 0 by omega)
  have := Int.emod_lt_of_pos h (show (0 : Int) < p by omega)
  omega
theorem rB {p q : Nat} (hq : 0 < q) (h : Int) : 0 ≤ (p : Int) + h % q ∧ (p : Int) + h % q < (p : Int) + q := by
  have := Int.emod_nonneg h (show (q : Int) ≠ 0 by omega)
  have := Int.emod_lt_of_pos h (show (0 : Int) < q by omega)
  omega
theorem Join.zero {p q : Nat} : Join p q [] ((List.range (p + q)).map fun k : Nat => (k : Int)) := by
  have g : ∀ x : Int, 0 ≤ x → x < (p : Int) + q → getZ ((List.range (p + q)).map fun k : Nat => (k : Int)) x = x := by
    intro x h0 h1
    unfold getZ
    rw [List.getD_eq_getElem?_getD, List.getElem?_map, List.getElem?_range (by omega)]
    simp; omega
  refine ⟨by simp, fun x h0 h1 => ?_, fun h hh => by simp at hh, fun x h0 h1 => ?_, fun S hS x h0 h1 => ?_⟩
  · rw [g x h0 h1, g x h0 h1]; exact ⟨h0, h1, rfl⟩
  · rw [g x h0 h1]; exact Int.le_refl _
  · rw [g x h0 h1]
def jf (one other l : Int) : Int := if one = l ∨ other = l then min one other else l
theorem Join.step {p q : Nat} (hp : 0 < p) (hq : 0 < q) {hs L : List Int} {h : Int} (j : Join p q hs L) : Join p q (hs ++ [h]) (L.map (jf (getZ L (h % p)) (getZ L (p + h % q)))) := by
  obtain ⟨a0, a1⟩ := rA (q := q) hp h
  obtain ⟨b0, b1⟩ := rB (p := p) hq h
  obtain ⟨la0, la1, la2⟩ := j.lab _ a0 a1
  obtain ⟨lb0, lb1, lb2⟩ := j.lab _ b0 b1
  have len := j.len
  generalize ho : getZ L (h % p) = one at *
  generalize ht : getZ L (p + h % q) = other at *
  have gm : ∀ x : Int, 0 ≤ x → x < (p : Int) + q → getZ (L.map (jf one other)) x = jf one other (getZ L x) := fun x h0 h1 => getZ_map h0 (by omega)
  have fix : ∀ x : Int, 0 ≤ x → x < (p : Int) + q → jf one other (getZ L x) = min one other ∧ (one = getZ L x ∨ other = getZ L x) ∨ jf one other (getZ L x) = getZ L x ∧ ¬ (one = getZ L x ∨ other = getZ L x) := by
    intro x _ _
    unfold jf
    by_cases c : one = getZ L x ∨ other = getZ L x
    · exact .inl ⟨if_pos c, c⟩
    · exact .inr ⟨if_neg c, c⟩
  have lowL : getZ L (min one other) = min one other := by
    rcases Int.le_total one other with c | c
    · rw [Int.min_eq_left c]; exact la2
    · rw [Int.min_eq_right c]; exact lb2
  have lowf : jf one other (min one other) = min one other := by
    unfold jf
    split
    · rfl
    · rfl
  refine ⟨by rw [List.length_map]; exact len, fun x h0 h1 => ?_, fun h' hh => ?_, fun x h0 h1 => ?_, fun S hS x h0 h1 => ?_⟩
  · obtain ⟨l0, l1, l2⟩ := j.lab x h0 h1
    rw [gm x h0 h1]
    rcases fix x h0 h1 with ⟨e, _⟩ | ⟨e, n⟩
    · rw [e]
      refine ⟨by omega, by omega, ?_⟩
      rw [gm _ (by omega) (by omega), lowL, lowf]
    · rw [e]
      refine ⟨l0, l1, ?_⟩
      rw [gm _ l0 l1, l2, e]
  · rcases List.mem_append.mp hh with hh | hh
    · obtain ⟨a0', a1'⟩ := rA (q := q) hp h'
      obtain ⟨b0', b1'⟩ := rB (p := p) hq h'
      rw [gm _ a0' a1', gm _ b0' b1', j.eq h' hh]
    · rw [List.mem_singleton] at hh
      subst hh
      rw [gm _ a0 a1, gm _ b0 b1, ho, ht]
      unfold jf
      rw [if_pos (.inl rfl), if_pos (.inr rfl)]
  · have := j.le x h0 h1
    rw [gm x h0 h1]
    rcases fix x h0 h1 with ⟨e, c | c⟩ | ⟨e, n⟩ <;> rw [e] <;> omega
  · rw [gm x h0 h1]
    have hS' : ∀ h ∈ hs, S (h % p) ↔ S (p + h % q) := fun h hh => hS h (List.mem_append_left _ hh)
    have c1 := j.con S hS' _ a0 a1
    have c2 := j.con S hS' _ b0 b1
    have c3 := hS h (List.mem_append_right _ (List.mem_singleton.mpr rfl))
    have c4 := j.con S hS' x h0 h1
    rw [ho] at c1
    rw [ht] at c2
    have c5 : S one ↔ S other := c1.symm.trans (c3.trans c2)
    have c6 : S (min one other) ↔ S one := by
      rcases Int.le_total one other with c | c
      · rw [Int.min_eq_left c]
      · rw [Int.min_eq_right c]; exact c5.symm
    rcases fix x h0 h1 with ⟨e, c | c⟩ | ⟨e, n⟩
    · rw [e, c4, c6, c]
    · rw [e, c4, c6, c5, c]
    · rw [e]; exact c4
def sp_joined_rests : Sp3 := fun ds M Q => ∃ (p q : Nat) (r : Addr) (hs : List Int), ds = [.int p, .int q, .ref r] ∧ M r = some (.lst (hs.map .int)) ∧ 0 < p ∧ 0 < q ∧ p ≤ 100 ∧ q ≤ 100 ∧ ∀ L, Join p q hs L → newL (L.map .int) M Q
theorem inF2 {l one other : Int} : inF (.int l) [.int one, .int other] = decide (one = l ∨ other = l) := by
  unfold inF
  simp only [List.any_cons, List.any_nil, eqF, Bool.or_false]
  by_cases c : one = l <;> by_cases d : other = l <;> simp [c, d]
theorem t_joined_rests : ∀ ds M Q, sp_joined_rests ds M Q → G3.wpSs b_joined_rests (rets Q) (st3 n_joined_rests.length ds) M := by
  rintro ds M Q ⟨p, q, r, hs, rfl, er, hp, hq, p1, q1, k⟩
  simp only [n_joined_rests, r1_joined_rests, b_joined_rests, G3.wpSs, G3.wpS, G3.wpE, G3.wpEL, G3.wpO, G3.wpTO, G3.wpT, G3.wpAnd, G3.wpOr, G3.wpAndT, G3.wpOrT, G3.wpI, G3.wpG, G3.wpGs, G3.wipe3, G3.GV.d, G3.st3, G3.bi3, G3.me3, G3.Me.ty, G3.rets, List.replicate, G3.wl, Nat.reduceAdd, Nat.reduceSub, reduceIte]
  refine ⟨by omega, by omega, fun a0 ha0 => ?_⟩
  have er1 := put_keep (o' := .lst (rgD 0 1 ((p : Int) + q).toNat)) er ha0
  simp only []
  rw [seqI_ref er1]
  refine ⟨fun i τ M' => ∃ a L y4 y5 y6 y7 y8, τ = [some (.int p), some (.int q), some (.ref r), some (.ref a), y4, y5, y6, y7, y8] ∧ M' a = some (.lst (L.map .int)) ∧ Join p q (hs.take i) L ∧ Sub M M' ∧ M a = none, ⟨a0, (List.range (p + q)).map fun k : Nat => (k : Int), _, _, _, _, _, rfl, ?_, Join.zero, Sub.new ha0, ha0⟩, ?_⟩
  · rw [put_same, show ((p : Int) + q).toNat = p + q by omega, List.map_map]
    unfold rgD
    congr 2
    refine List.map_congr_left fun k _ => ?_
    simp
  rintro i τ M' ⟨a, L, y4, y5, y6, y7, y8, rfl, ea, j, sb, fa⟩ hi
  refine ⟨sb _ _ er, fun d hd => ?_, fun ei => ?_⟩
  · rw [List.getElem?_map] at hd
    rw [List.length_map] at hi
    cases hz : hs[i]? with
    | none => rw [hz] at hd; cases hd
    | some h =>
      rw [hz] at hd
      cases hd
      obtain ⟨a0, a1⟩ := rA (q := q) hp h
      obtain ⟨b0, b1⟩ := rB (p := p) hq h
      have len := j.len
      simp only [G3.wpSs, G3.wpS, G3.wpE, G3.wpEL, G3.wpO, G3.wpTO, G3.wpT, G3.wpAnd, G3.wpOr, G3.wpAndT, G3.wpOrT, G3.wpI, G3.wpG, G3.wpGs, G3.wipe3, G3.GV.d, G3.st3, G3.bi3, G3.me3, G3.Me.ty, G3.rets, List.replicate, G3.wl, Nat.reduceAdd, Nat.reduceSub, reduceIte]
      refine ⟨by omega, ?_⟩
      rw [ix3_intsL ea a0 (by omega)]
      simp only [G3.wpSs, G3.wpS, G3.wpE, G3.wpEL, G3.wpO, G3.wpTO, G3.wpT, G3.wpAnd, G3.wpOr, G3.wpAndT, G3.wpOrT, G3.wpI, G3.wpG, G3.wpGs, G3.wipe3, G3.GV.d, G3.st3, G3.bi3, G3.me3, G3.Me.ty, G3.rets, List.replicate, G3.wl, Nat.reduceAdd, Nat.reduceSub, reduceIte]
      refine ⟨by omega, ?_⟩
      rw [ix3_intsL ea b0 (by omega)]
      simp only [seqI_ref ea, G3.wpSs, G3.wpS, G3.wpE, G3.wpEL, G3.wpO, G3.wpTO, G3.wpT, G3.wpAnd, G3.wpOr, G3.wpAndT, G3.wpOrT, G3.wpI, G3.wpG, G3.wpGs, G3.wipe3, G3.GV.d, G3.st3, G3.bi3, G3.me3, G3.Me.ty, G3.rets, List.replicate, G3.wl, Nat.reduceAdd, Nat.reduceSub, reduceIte]
      refine lc_mp D.int L (fun l => .int (jf (getZ L (h % p)) (getZ L (p + h % q)) l)) (fun M' sb => sb _ _ ea) (fun l hl M2 sb2 Qe hq => ?_) (by rw [sline]; omega) ?_
      · simp only [inn_, in3_tup, inF2, id, G3.wpSs, G3.wpS, G3.wpE, G3.wpEL, G3.wpO, G3.wpTO, G3.wpT, G3.wpAnd, G3.wpOr, G3.wpAndT, G3.wpOrT, G3.wpI, G3.wpG, G3.wpGs, G3.wipe3, G3.GV.d, G3.st3, G3.bi3, G3.me3, G3.Me.ty, G3.rets, List.replicate, G3.wl, Nat.reduceAdd, Nat.reduceSub, reduceIte]
        refine ⟨rfl, rfl, ?_⟩
        have hq := hq M2 .refl
        unfold jf at hq
        split
        · rename_i c; rw [if_pos c] at hq; exact hq
        · rename_i c; rw [if_neg c] at hq; exact hq
      · rw [show (L.map fun l => D.int (jf (getZ L (h % p)) (getZ L (p + h % q)) l)) = (L.map (jf (getZ L (h % p)) (getZ L (p + h % q)))).map .int by rw [List.map_map]; rfl]
        intro a' ha'
        have fa' : M a' = none := by
          cases z : M a' with
          | none => rfl
          | some o => rw [sb _ _ z] at ha'; cases ha'
        refine wk.of ⟨a', _, _, _, _, _, _, rfl, put_same, ?_, sb.put_free fa', fa'⟩
        rw [List.take_add_one, hz]
        exact j.step hp hq
  · rw [List.length_map] at ei
    subst ei
    rw [List.take_length] at j
    refine wk.of (wk_sub ?_ (k L j a fa))
    have := sb.put a (.lst (L.map .int))
    rwa [put_self ea] at this
end G5
set_option Elab.async false
set_option linter.all false
set_option maxRecDepth 100000
set_option maxHeartbeats 16000000
namespace K83
open PySem PySem.Spec PyProof.Rows L2 G3 G3w G5
/-! linked_marks -/
def n_linked_marks : List Str := ["period", "marks", "index", "rest", "other", "mark"]
def c_linked_marks : Ck := ⟨n_linked_marks, bl, im, cn⟩
theorem s_linked_marks : FnScope n_linked_marks ["period", "marks", "index"] (defScope (top 2)) := ⟨rfl, rfl, rfl, by decide +kernel, rfl, by decide +kernel, by decide +kernel⟩
def b_linked_marks : SL := (.cons (.set (.nm 3) (.bin .mod (.ix (.ix (.v 1) (.v 2)) (.c (.int 0))) (.v 0))) (.cons (.ret (.lc [("other", 4), ("mark", 5)] (.tup (.cons (.nm 4) (.cons (.nm 5) .nil)))
  (.enum (.v 1)) (.ex (.and (.cons (.cmp .ne (.v 4) (.v 2)) (.cons (.cmp .eq (.bin .mod (.ix (.v 5) (.c (.int 0))) (.v 0)) (.v 3)) .nil)))) (.v 4))) .nil))
theorem k_linked_marks : chkSs c_linked_marks (defScope (top 2)) (b_linked_marks) (defBody (top 2)) = true := by kernel_rfl
/-! height_chain -/
def n_height_chain : List Str := ["p", "q", "marks", "hour", "queue", "reached", "head", "state", "other", "index", "by_q", "later", "mark"]
def c_height_chain : Ck := ⟨n_height_chain, bl, im, cn⟩
theorem s_height_chain : FnScope n_height_chain ["p", "q", "marks", "hour"] (defScope (top 3)) := ⟨rfl, rfl, rfl, by decide +kernel, rfl, by decide +kernel, by decide +kernel⟩
def r1_height_chain (sp_linked_marks : Sp3) : SL := (.cons (.for_ (.nm 8) (.seq (.call "linked_marks" sp_linked_marks (.cons (.ite (.cmp .eq (.v 10) (.c (.int 1))) (.v 1) (.v 0)) (.cons (.v 2) (.cons
  (.v 9) .nil))))) (.cons (.set (.nm 11) (.ktup (.cons (.v 8) (.cons (.bin .sub (.c (.int 1)) (.v 10)) .nil)))) (.cons (.ite (.cmp .nin (.v 11) (.v 5)) (.cons (.setSub (.v 5) (.v 11) (.bin .add (.ix
  (.v 5) (.v 7)) (.tup (.cons (.v 8) .nil)))) (.cons (.ex (.me .append (.v 4) (.cons (.v 11) .nil))) .nil)) .nil) .nil))) .nil)
def r2_height_chain (sp_linked_marks : Sp3) : SL := (.cons (.ret (.c .non)) .nil)
def b_height_chain (sp_linked_marks : Sp3) : SL := (.cons (.set (.nm 4) (.lc [("index", 9), ("mark", 12)] (.tup (.cons (.nm 9) (.cons (.nm 12) .nil))) (.enum (.v 2)) (.ex (.cmp .eq (.bin .mod (.ix (.v
  12) (.c (.int 0))) (.v 0)) (.bin .mod (.v 3) (.v 0)))) (.ktup (.cons (.v 9) (.cons (.c (.int 1)) .nil))))) (.cons (.set (.nm 5) (.dct [("state", 7)] (.nm 7) (.seq (.v 4)) .no (.v 7) (.tup (.cons
  (.ix (.v 7) (.c (.int 0))) .nil)))) (.cons (.set (.nm 6) (.c (.int 0))) (.cons (.whil (.cmp .lt (.v 6) (.bi .len (.cons (.v 4) .nil))) (.cons (.set (.nm 7) (.ix (.v 4) (.v 6))) (.cons (.aug 6 .add
  (.c (.int 1))) (.cons (.set (.tup (.cons (.nm 9) (.cons (.nm 10) .nil))) (.v 7)) (.cons (.ite (.and (.cons (.cmp .eq (.v 10) (.c (.int 1))) (.cons (.cmp .eq (.bin .mod (.ix (.ix (.v 2) (.v 9)) (.c
  (.int 0))) (.v 1)) (.bin .mod (.v 3) (.v 1))) .nil))) (.cons (.ret (.ix (.v 5) (.v 7))) .nil) .nil) (r1_height_chain sp_linked_marks)))))) (r2_height_chain sp_linked_marks)))))
theorem k_height_chain (sp_linked_marks : Sp3) : chkSs c_height_chain (defScope (top 3)) (b_height_chain sp_linked_marks) (defBody (top 3)) = true := by kernel_rfl
/-! joined_rests -/
def c_joined_rests : Ck := ⟨n_joined_rests, bl, im, cn⟩
theorem s_joined_rests : FnScope n_joined_rests ["p", "q", "hours"] (defScope (top 4)) := ⟨rfl, rfl, rfl, by decide +kernel, rfl, by decide +kernel, by decide +kernel⟩
theorem k_joined_rests : chkSs c_joined_rests (defScope (top 4)) (b_joined_rests) (defBody (top 4)) = true := by kernel_rfl
/-! count_parts -/
def n_count_parts : List Str := ["p", "q", "hours", "label"]
def c_count_parts : Ck := ⟨n_count_parts, bl, im, cn⟩
theorem s_count_parts : FnScope n_count_parts ["p", "q", "hours"] (defScope (top 6)) := ⟨rfl, rfl, rfl, by decide +kernel, rfl, by decide +kernel, by decide +kernel⟩
def b_count_parts (sp_joined_rests : Sp3) : SL := (.cons (.ret (.bi .len (.cons (.dc [("label", 3)] (.nm 3) (.seq (.call "joined_rests" sp_joined_rests (.cons (.v 0) (.cons (.v 1) (.cons (.v 2)
  .nil))))) .no (.v 3) (.c (.bl true))) .nil))) .nil)
theorem k_count_parts (sp_joined_rests : Sp3) : chkSs c_count_parts (defScope (top 6)) (b_count_parts sp_joined_rests) (defBody (top 6)) = true := by kernel_rfl
/-! does_tell_all -/
def n_does_tell_all : List Str := ["p", "q", "offers", "chosen", "index"]
def c_does_tell_all : Ck := ⟨n_does_tell_all, bl, im, cn⟩
theorem s_does_tell_all : FnScope n_does_tell_all ["p", "q", "offers", "chosen"] (defScope (top 7)) := ⟨rfl, rfl, rfl, by decide +kernel, rfl, by decide +kernel, by decide +kernel⟩
def b_does_tell_all (sp_count_parts : Sp3) : SL := (.cons (.ret (.cmp .eq (.call "count_parts" sp_count_parts (.cons (.v 0) (.cons (.v 1) (.cons (.lc [("index", 4)] (.nm 4) (.seq (.v 3)) .no (.ix (.ix
  (.v 2) (.v 4)) (.c (.int 0)))) .nil)))) (.bi .gcd (.cons (.v 0) (.cons (.v 1) .nil))))) .nil)
theorem k_does_tell_all (sp_count_parts : Sp3) : chkSs c_does_tell_all (defScope (top 7)) (b_does_tell_all sp_count_parts) (defBody (top 7)) = true := by kernel_rfl
/-! cheapest_reading -/
def n_cheapest_reading : List Str := ["p", "q", "offers", "taken", "parts", "_", "index", "joined", "one", "cost"]
def c_cheapest_reading : Ck := ⟨n_cheapest_reading, bl, im, cn⟩
theorem s_cheapest_reading : FnScope n_cheapest_reading ["p", "q", "offers"] (defScope (top 8)) := ⟨rfl, rfl, rfl, by decide +kernel, rfl, by decide +kernel, by decide +kernel⟩
def r1_cheapest_reading (sp_count_parts : Sp3) : SL := (.cons (.ret (.ite (.cmp .eq (.v 4) (.bi .gcd (.cons (.v 0) (.cons (.v 1) .nil)))) (.bi .tuple (.cons (.bi .sorted (.cons (.v 3) .nil)) .nil))
  (.c .non))) .nil)
def b_cheapest_reading (sp_count_parts : Sp3) : SL := (.cons (.set (.nm 3) (.lst .nil)) (.cons (.set (.nm 4) (.bin .add (.v 0) (.v 1))) (.cons (.for_ (.tup (.cons (.nm 5) (.cons (.nm 6) .nil))) (.seq
  (.bi .sortedP (.cons (.lc [("index", 6), ("_", 5), ("cost", 9)] (.tup (.cons (.nm 6) (.cons (.tup (.cons (.nm 5) (.cons (.nm 9) .nil))) .nil))) (.enum (.v 2)) .no (.ktup (.cons (.v 9) (.cons (.v 6)
  .nil)))) .nil))) (.cons (.set (.nm 7) (.call "count_parts" sp_count_parts (.cons (.v 0) (.cons (.v 1) (.cons (.lc [("one", 8)] (.nm 8) (.seq (.bin .add (.v 3) (.lst (.cons (.v 6) .nil)))) .no (.ix
  (.ix (.v 2) (.v 8)) (.c (.int 0)))) .nil))))) (.cons (.ite (.cmp .lt (.v 7) (.v 4)) (.cons (.ex (.me .append (.v 3) (.cons (.v 6) .nil))) (.cons (.set (.nm 4) (.v 7)) .nil)) .nil) .nil)))
  (r1_cheapest_reading sp_count_parts))))
theorem k_cheapest_reading (sp_count_parts : Sp3) : chkSs c_cheapest_reading (defScope (top 8)) (b_cheapest_reading sp_count_parts) (defBody (top 8)) = true := by kernel_rfl
/-! reading_cost -/
def n_reading_cost : List Str := ["offers", "chosen", "index"]
def c_reading_cost : Ck := ⟨n_reading_cost, bl, im, cn⟩
theorem s_reading_cost : FnScope n_reading_cost ["offers", "chosen"] (defScope (top 9)) := ⟨rfl, rfl, rfl, by decide +kernel, rfl, by decide +kernel, by decide +kernel⟩
def b_reading_cost : SL := (.cons (.ret (.bi .sum (.cons (.lc [("index", 2)] (.nm 2) (.seq (.v 1)) .no (.ix (.ix (.v 0) (.v 2)) (.c (.int 1)))) .nil))) .nil)
theorem k_reading_cost : chkSs c_reading_cost (defScope (top 9)) (b_reading_cost) (defBody (top 9)) = true := by kernel_rfl
/-! first_gap -/
def n_first_gap : List Str := ["p", "q", "offers", "labels", "hour", "_"]
def c_first_gap : Ck := ⟨n_first_gap, bl, im, cn⟩
theorem s_first_gap : FnScope n_first_gap ["p", "q", "offers"] (defScope (top 10)) := ⟨rfl, rfl, rfl, by decide +kernel, rfl, by decide +kernel, by decide +kernel⟩
def r1_first_gap (sp_joined_rests : Sp3) : SL := (.cons (.ret (.c .non)) .nil)
def b_first_gap (sp_joined_rests : Sp3) : SL := (.cons (.set (.nm 3) (.call "joined_rests" sp_joined_rests (.cons (.v 0) (.cons (.v 1) (.cons (.lc [("hour", 4), ("_", 5)] (.tup (.cons (.nm 4) (.cons
  (.nm 5) .nil))) (.seq (.v 2)) .no (.v 4)) .nil))))) (.cons (.for_ (.nm 4) (.rng1 (.bi .lcm (.cons (.v 0) (.cons (.v 1) .nil)))) (.cons (.ite (.cmp .ne (.ix (.v 3) (.bin .mod (.v 4) (.v 0))) (.ix (.v
  3) (.bin .add (.v 0) (.bin .mod (.v 4) (.v 1))))) (.cons (.ret (.v 4)) .nil) .nil) .nil)) (r1_first_gap sp_joined_rests)))
theorem k_first_gap (sp_joined_rests : Sp3) : chkSs c_first_gap (defScope (top 10)) (b_first_gap sp_joined_rests) (defBody (top 10)) = true := by kernel_rfl
/-! _law_draws -/
def c__law_draws : Ck := ⟨n__law_draws, bl, im, cn⟩
theorem s__law_draws : FnScope n__law_draws ["script", "many"] (defScope (top 12)) := ⟨rfl, rfl, rfl, by decide +kernel, rfl, by decide +kernel, by decide +kernel⟩
theorem k__law_draws : chkSs c__law_draws (defScope (top 12)) (b__law_draws) (defBody (top 12)) = true := by kernel_rfl
/-! _law_take -/
def c__law_take : Ck := ⟨n__law_take, bl, im, cn⟩
theorem s__law_take : FnScope n__law_take ["draws", "many"] (defScope (top 13)) := ⟨rfl, rfl, rfl, by decide +kernel, rfl, by decide +kernel, by decide +kernel⟩
theorem k__law_take : chkSs c__law_take (defScope (top 13)) (b__law_take) (defBody (top 13)) = true := by kernel_rfl
/-! _law_pick -/
def c__law_pick : Ck := ⟨n__law_pick, bl, im, cn⟩
theorem s__law_pick : FnScope n__law_pick ["draws", "row"] (defScope (top 14)) := ⟨rfl, rfl, rfl, by decide +kernel, rfl, by decide +kernel, by decide +kernel⟩
theorem k__law_pick (sp__law_take : Sp3) : chkSs c__law_pick (defScope (top 14)) (b__law_pick sp__law_take) (defBody (top 14)) = true := by kernel_rfl
/-! _law_same -/
def c__law_same : Ck := ⟨n__law_same, bl, im, cn⟩
theorem s__law_same : FnScope n__law_same ["actual", "due"] (defScope (top 15)) := ⟨rfl, rfl, rfl, by decide +kernel, rfl, by decide +kernel, by decide +kernel⟩
theorem k__law_same (sp__law_same : Sp3) : chkSs c__law_same (defScope (top 15)) (b__law_same sp__law_same) (defBody (top 15)) = true := by kernel_rfl
/-! _law_shuffled -/
def n__law_shuffled : List Str := ["draws", "row", "left", "told", "k"]
def r1__law_shuffled (sp__law_take : Sp3) : SL := (.cons (.ret (.v 3)) .nil)
def b__law_shuffled (sp__law_take : Sp3) : SL := (.cons (.set (.nm 2) (.bi .list (.cons (.v 1) .nil))) (.cons (.set (.nm 3) (.lst .nil)) (.cons (.for_ (.nm 4) (.rng1 (.bi .len (.cons (.v 2) .nil)))
  (.cons (.ex (.me .append (.v 3) (.cons (.me .popAt (.v 2) (.cons (.call "_law_take" sp__law_take (.cons (.v 0) (.cons (.bi .len (.cons (.v 2) .nil)) .nil))) .nil)) .nil))) .nil)) (r1__law_shuffled
  sp__law_take))))
def c__law_shuffled : Ck := ⟨n__law_shuffled, bl, im, cn⟩
theorem s__law_shuffled : FnScope n__law_shuffled ["draws", "row"] (defScope (top 16)) := ⟨rfl, rfl, rfl, by decide +kernel, rfl, by decide +kernel, by decide +kernel⟩
theorem k__law_shuffled (sp__law_take : Sp3) : chkSs c__law_shuffled (defScope (top 16)) (b__law_shuffled sp__law_take) (defBody (top 16)) = true := by kernel_rfl
/-! _law_gcd -/
def c__law_gcd : Ck := ⟨n__law_gcd, bl, im, cn⟩
theorem s__law_gcd : FnScope n__law_gcd ["one", "other"] (defScope (top 17)) := ⟨rfl, rfl, rfl, by decide +kernel, rfl, by decide +kernel, by decide +kernel⟩
theorem k__law_gcd : chkSs c__law_gcd (defScope (top 17)) (b__law_gcd) (defBody (top 17)) = true := by kernel_rfl
/-! _law_tide_period -/
def c__law_tide_period : Ck := ⟨n__law_tide_period, bl, im, cn⟩
theorem s__law_tide_period : FnScope n__law_tide_period ["draws"] (defScope (top 18)) := ⟨rfl, rfl, rfl, by decide +kernel, rfl, by decide +kernel, by decide +kernel⟩
theorem k__law_tide_period (sp__law_take : Sp3) : chkSs c__law_tide_period (defScope (top 18)) (b__law_tide_period sp__law_take) (defBody (top 18)) = true := by kernel_rfl
/-! _law_tide_hour -/
def c__law_tide_hour : Ck := ⟨n__law_tide_hour, bl, im, cn⟩
theorem s__law_tide_hour : FnScope n__law_tide_hour ["draws", "few"] (defScope (top 19)) := ⟨rfl, rfl, rfl, by decide +kernel, rfl, by decide +kernel, by decide +kernel⟩
theorem k__law_tide_hour (sp__law_take : Sp3) (sp__law_pick : Sp3) : chkSs c__law_tide_hour (defScope (top 19)) (b__law_tide_hour sp__law_take sp__law_pick) (defBody (top 19)) = true := by kernel_rfl
/-! _law_tide_parts -/
def n__law_tide_parts : List Str := ["p", "q", "marks", "part", "value", "root", "turn", "grown", "hour", "height", "one", "other"]
def c__law_tide_parts : Ck := ⟨n__law_tide_parts, bl, im, cn⟩
theorem s__law_tide_parts : FnScope n__law_tide_parts ["p", "q", "marks"] (defScope (top 20)) := ⟨rfl, rfl, rfl, by decide +kernel, rfl, by decide +kernel, by decide +kernel⟩
def r1__law_tide_parts : SL := (.cons (.ite (.and (.cons (.cmp .eq (.ix (.v 3) (.v 11)) (.v 5)) (.cons (.cmp .lt (.ix (.v 3) (.v 10)) (.c (.int 0))) .nil))) (.cons (.setSub (.v 3) (.v 10) (.v 5))
  (.cons (.setSub (.v 4) (.v 10) (.bin .sub (.v 9) (.ix (.v 4) (.v 11)))) (.cons (.set (.nm 7) (.c (.bl true))) .nil))) .nil) .nil)
def r2__law_tide_parts : SL := (.cons (.ite (.not (.v 7)) (.cons .brk .nil) .nil) .nil)
def r3__law_tide_parts : SL := (.cons (.ret (.lst (.cons (.v 3) (.cons (.v 4) .nil)))) .nil)
def b__law_tide_parts : SL := (.cons (.set (.nm 3) (.bin .mul (.lst (.cons (.neg (.c (.int 1))) .nil)) (.bin .add (.v 0) (.v 1)))) (.cons (.set (.nm 4) (.bin .mul (.lst (.cons (.c (.int 0)) .nil))
  (.bin .add (.v 0) (.v 1)))) (.cons (.for_ (.nm 5) (.rng1 (.bin .add (.v 0) (.v 1))) (.cons (.ite (.cmp .lt (.ix (.v 3) (.v 5)) (.c (.int 0))) (.cons (.setSub (.v 3) (.v 5) (.v 5)) (.cons (.for_ (.nm
  6) (.rng1 (.bin .add (.v 0) (.v 1))) (.cons (.set (.nm 7) (.c (.bl false))) (.cons (.for_ (.tup (.cons (.nm 8) (.cons (.nm 9) .nil))) (.seq (.v 2)) (.cons (.set (.nm 10) (.bin .mod (.bi .int (.cons
  (.v 8) .nil)) (.v 0))) (.cons (.set (.nm 11) (.bin .add (.v 0) (.bin .mod (.bi .int (.cons (.v 8) .nil)) (.v 1)))) (.cons (.ite (.and (.cons (.cmp .eq (.ix (.v 3) (.v 10)) (.v 5)) (.cons (.cmp .lt
  (.ix (.v 3) (.v 11)) (.c (.int 0))) .nil))) (.cons (.setSub (.v 3) (.v 11) (.v 5)) (.cons (.setSub (.v 4) (.v 11) (.bin .sub (.v 9) (.ix (.v 4) (.v 10)))) (.cons (.set (.nm 7) (.c (.bl true)))
  .nil))) .nil) (r1__law_tide_parts))))) (r2__law_tide_parts)))) .nil)) .nil) .nil)) (r3__law_tide_parts))))
theorem k__law_tide_parts : chkSs c__law_tide_parts (defScope (top 20)) (b__law_tide_parts) (defBody (top 20)) = true := by kernel_rfl
/-! _law_edge_places -/
def n__law_edge_places : List Str := ["p", "q", "hour"]
def c__law_edge_places : Ck := ⟨n__law_edge_places, bl, im, cn⟩
theorem s__law_edge_places : FnScope n__law_edge_places ["p", "q", "hour"] (defScope (top 21)) := ⟨rfl, rfl, rfl, by decide +kernel, rfl, by decide +kernel, by decide +kernel⟩
def b__law_edge_places : SL := (.cons (.ret (.tup (.cons (.bin .mod (.bi .int (.cons (.v 2) .nil)) (.v 0)) (.cons (.bin .add (.v 0) (.bin .mod (.bi .int (.cons (.v 2) .nil)) (.v 1))) .nil)))) .nil)
theorem k__law_edge_places : chkSs c__law_edge_places (defScope (top 21)) (b__law_edge_places) (defBody (top 21)) = true := by kernel_rfl
/-! _law_joined_parts -/
def n__law_joined_parts : List Str := ["p", "q", "hours", "hour"]
def c__law_joined_parts : Ck := ⟨n__law_joined_parts, bl, im, cn⟩
theorem s__law_joined_parts : FnScope n__law_joined_parts ["p", "q", "hours"] (defScope (top 22)) := ⟨rfl, rfl, rfl, by decide +kernel, rfl, by decide +kernel, by decide +kernel⟩
def b__law_joined_parts (sp__law_tide_parts : Sp3) : SL := (.cons (.ret (.ix (.call "_law_tide_parts" sp__law_tide_parts (.cons (.v 0) (.cons (.v 1) (.cons (.lc [("hour", 3)] (.nm 3) (.seq (.v 2)) .no
  (.tup (.cons (.v 3) (.cons (.c (.int 0)) .nil)))) .nil)))) (.c (.int 0)))) .nil)
theorem k__law_joined_parts (sp__law_tide_parts : Sp3) : chkSs c__law_joined_parts (defScope (top 22)) (b__law_joined_parts sp__law_tide_parts) (defBody (top 22)) = true := by kernel_rfl
/-! _law_tells_all -/
def n__law_tells_all : List Str := ["p", "q", "hours", "part", "k"]
def c__law_tells_all : Ck := ⟨n__law_tells_all, bl, im, cn⟩
theorem s__law_tells_all : FnScope n__law_tells_all ["p", "q", "hours"] (defScope (top 23)) := ⟨rfl, rfl, rfl, by decide +kernel, rfl, by decide +kernel, by decide +kernel⟩
def b__law_tells_all (sp__law_gcd : Sp3) (sp__law_joined_parts : Sp3) : SL := (.cons (.set (.nm 3) (.call "_law_joined_parts" sp__law_joined_parts (.cons (.v 0) (.cons (.v 1) (.cons (.v 2) .nil)))))
  (.cons (.ret (.cmp .eq (.bi .len (.cons (.lc [("k", 4)] (.nm 4) (.rng1 (.bin .add (.v 0) (.v 1))) (.ex (.cmp .eq (.ix (.v 3) (.v 4)) (.v 4))) (.v 4)) .nil)) (.call "_law_gcd" sp__law_gcd (.cons (.v
  0) (.cons (.v 1) .nil))))) .nil))
theorem k__law_tells_all (sp__law_gcd : Sp3) (sp__law_joined_parts : Sp3) : chkSs c__law_tells_all (defScope (top 23)) (b__law_tells_all sp__law_gcd sp__law_joined_parts) (defBody (top 23)) = true := by kernel_rfl
/-! _law_cheapest -/
def n__law_cheapest : List Str := ["p", "q", "offers", "chosen", "cost", "k", "part", "one", "other", "j", "offer"]
def c__law_cheapest : Ck := ⟨n__law_cheapest, bl, im, cn⟩
theorem s__law_cheapest : FnScope n__law_cheapest ["p", "q", "offers"] (defScope (top 24)) := ⟨rfl, rfl, rfl, by decide +kernel, rfl, by decide +kernel, by decide +kernel⟩
def r2__law_cheapest (sp__law_edge_places : Sp3) (sp__law_joined_parts : Sp3) (sp__law_tells_all : Sp3) : SL := (.cons (.ret (.bi .tuple (.cons (.bi .sorted (.cons (.v 3) .nil)) .nil))) .nil)
def r1__law_cheapest (sp__law_edge_places : Sp3) (sp__law_joined_parts : Sp3) (sp__law_tells_all : Sp3) : SL := (.cons (.set (.nm 3) (.lst .nil)) (.cons (.for_ (.tup (.cons (.nm 4) (.cons (.nm 5)
  .nil))) (.seq (.bi .sortedP (.cons (.lc [("j", 9)] (.nm 9) (.rng1 (.bi .len (.cons (.v 2) .nil))) .no (.ktup (.cons (.ix (.ix (.v 2) (.v 9)) (.c (.int 1))) (.cons (.v 9) .nil)))) .nil))) (.cons
  (.set (.nm 6) (.call "_law_joined_parts" sp__law_joined_parts (.cons (.v 0) (.cons (.v 1) (.cons (.lc [("j", 9)] (.nm 9) (.seq (.v 3)) .no (.ix (.ix (.v 2) (.v 9)) (.c (.int 0)))) .nil))))) (.cons
  (.set (.tup (.cons (.nm 7) (.cons (.nm 8) .nil))) (.call "_law_edge_places" sp__law_edge_places (.cons (.v 0) (.cons (.v 1) (.cons (.ix (.ix (.v 2) (.v 5)) (.c (.int 0))) .nil))))) (.cons (.ite
  (.cmp .ne (.ix (.v 6) (.v 7)) (.ix (.v 6) (.v 8))) (.cons (.ex (.me .append (.v 3) (.cons (.v 5) .nil))) .nil) .nil) .nil)))) (r2__law_cheapest sp__law_edge_places sp__law_joined_parts
  sp__law_tells_all)))
def b__law_cheapest (sp__law_edge_places : Sp3) (sp__law_joined_parts : Sp3) (sp__law_tells_all : Sp3) : SL := (.cons (.ite (.not (.call "_law_tells_all" sp__law_tells_all (.cons (.v 0) (.cons (.v 1)
  (.cons (.lc [("offer", 10)] (.nm 10) (.seq (.v 2)) .no (.ix (.v 10) (.c (.int 0)))) .nil))))) (.cons (.ret (.c .non)) .nil) .nil) (r1__law_cheapest sp__law_edge_places sp__law_joined_parts
  sp__law_tells_all))
theorem k__law_cheapest (sp__law_edge_places : Sp3) (sp__law_joined_parts : Sp3) (sp__law_tells_all : Sp3) : chkSs c__law_cheapest (defScope (top 24)) (b__law_cheapest sp__law_edge_places sp__law_joined_parts sp__law_tells_all) (defBody (top 24)) = true := by kernel_rfl
/-! _law_gap -/
def n__law_gap : List Str := ["p", "q", "offers", "part", "hour", "one", "other", "offer"]
def c__law_gap : Ck := ⟨n__law_gap, bl, im, cn⟩
theorem s__law_gap : FnScope n__law_gap ["p", "q", "offers"] (defScope (top 25)) := ⟨rfl, rfl, rfl, by decide +kernel, rfl, by decide +kernel, by decide +kernel⟩
def r1__law_gap (sp__law_gcd : Sp3) (sp__law_edge_places : Sp3) (sp__law_joined_parts : Sp3) : SL := (.cons (.ret (.c .non)) .nil)
def b__law_gap (sp__law_gcd : Sp3) (sp__law_edge_places : Sp3) (sp__law_joined_parts : Sp3) : SL := (.cons (.set (.nm 3) (.call "_law_joined_parts" sp__law_joined_parts (.cons (.v 0) (.cons (.v 1)
  (.cons (.lc [("offer", 7)] (.nm 7) (.seq (.v 2)) .no (.ix (.v 7) (.c (.int 0)))) .nil))))) (.cons (.for_ (.nm 4) (.rng1 (.bin .fdiv (.bin .mul (.v 0) (.v 1)) (.call "_law_gcd" sp__law_gcd (.cons (.v
  0) (.cons (.v 1) .nil))))) (.cons (.set (.tup (.cons (.nm 5) (.cons (.nm 6) .nil))) (.call "_law_edge_places" sp__law_edge_places (.cons (.v 0) (.cons (.v 1) (.cons (.v 4) .nil))))) (.cons (.ite
  (.cmp .ne (.ix (.v 3) (.v 5)) (.ix (.v 3) (.v 6))) (.cons (.ret (.v 4)) .nil) .nil) .nil))) (r1__law_gap sp__law_gcd sp__law_edge_places sp__law_joined_parts)))
theorem k__law_gap (sp__law_gcd : Sp3) (sp__law_edge_places : Sp3) (sp__law_joined_parts : Sp3) : chkSs c__law_gap (defScope (top 25)) (b__law_gap sp__law_gcd sp__law_edge_places sp__law_joined_parts) (defBody (top 25)) = true := by kernel_rfl
/-! _law_offers_are_right -/
def n__law_offers_are_right : List Str := ["draws", "p", "q", "offers", "best", "gap", "cost", "turn", "marks", "asked", "chosen", "tells", "paid", "k", "offer"]
def c__law_offers_are_right : Ck := ⟨n__law_offers_are_right, bl, im, cn⟩
theorem s__law_offers_are_right : FnScope n__law_offers_are_right ["draws", "p", "q", "offers"] (defScope (top 26)) := ⟨rfl, rfl, rfl, by decide +kernel, rfl, by decide +kernel, by decide +kernel⟩
def r4__law_offers_are_right (sp_height_chain : Sp3) (sp__law_take : Sp3) (sp__law_same : Sp3) (sp_reading_cost : Sp3) (sp_does_tell_all : Sp3) (sp__law_tells_all : Sp3) (sp__law_pick : Sp3)
  (sp__law_gcd : Sp3) (sp_first_gap : Sp3) (sp_cheapest_reading : Sp3) (sp__law_gap : Sp3) (sp__law_cheapest : Sp3) : SL := (.cons (.set (.nm 12) (.bi .sum (.cons (.lc [("k", 13)] (.nm 13) (.seq (.v
  10)) .no (.ix (.ix (.v 3) (.v 13)) (.c (.int 1)))) .nil))) (.cons (.ite (.or (.cons (.not (.call "_law_same" sp__law_same (.cons (.call "reading_cost" sp_reading_cost (.cons (.v 3) (.cons (.bi
  .tuple (.cons (.v 10) .nil)) .nil))) (.cons (.v 12) .nil)))) (.cons (.and (.cons (.v 11) (.cons (.cmp .lt (.v 12) (.v 6)) .nil))) .nil))) (.cons (.ret (.c (.bl false))) .nil) .nil) .nil))
def r3__law_offers_are_right (sp_height_chain : Sp3) (sp__law_take : Sp3) (sp__law_same : Sp3) (sp_reading_cost : Sp3) (sp_does_tell_all : Sp3) (sp__law_tells_all : Sp3) (sp__law_pick : Sp3)
  (sp__law_gcd : Sp3) (sp_first_gap : Sp3) (sp_cheapest_reading : Sp3) (sp__law_gap : Sp3) (sp__law_cheapest : Sp3) : SL := (.cons (.set (.nm 11) (.call "_law_tells_all" sp__law_tells_all (.cons (.v
  1) (.cons (.v 2) (.cons (.lc [("k", 13)] (.nm 13) (.seq (.v 10)) .no (.ix (.ix (.v 3) (.v 13)) (.c (.int 0)))) .nil))))) (.cons (.ite (.not (.call "_law_same" sp__law_same (.cons (.call
  "does_tell_all" sp_does_tell_all (.cons (.v 1) (.cons (.v 2) (.cons (.v 3) (.cons (.bi .tuple (.cons (.v 10) .nil)) .nil))))) (.cons (.v 11) .nil)))) (.cons (.ret (.c (.bl false))) .nil) .nil)
  (r4__law_offers_are_right sp_height_chain sp__law_take sp__law_same sp_reading_cost sp_does_tell_all sp__law_tells_all sp__law_pick sp__law_gcd sp_first_gap sp_cheapest_reading sp__law_gap
  sp__law_cheapest)))
def r6__law_offers_are_right (sp_height_chain : Sp3) (sp__law_take : Sp3) (sp__law_same : Sp3) (sp_reading_cost : Sp3) (sp_does_tell_all : Sp3) (sp__law_tells_all : Sp3) (sp__law_pick : Sp3)
  (sp__law_gcd : Sp3) (sp_first_gap : Sp3) (sp_cheapest_reading : Sp3) (sp__law_gap : Sp3) (sp__law_cheapest : Sp3) : SL := (.cons (.ret (.cmp .eq (.cmp .isN (.call "height_chain" sp_height_chain
  (.cons (.v 1) (.cons (.v 2) (.cons (.v 8) (.cons (.v 9) .nil))))) (.c .non)) (.cmp .notN (.v 5) (.c .non)))) .nil)
def r5__law_offers_are_right (sp_height_chain : Sp3) (sp__law_take : Sp3) (sp__law_same : Sp3) (sp_reading_cost : Sp3) (sp_does_tell_all : Sp3) (sp__law_tells_all : Sp3) (sp__law_pick : Sp3)
  (sp__law_gcd : Sp3) (sp_first_gap : Sp3) (sp_cheapest_reading : Sp3) (sp__law_gap : Sp3) (sp__law_cheapest : Sp3) : SL := (.cons (.set (.nm 8) (.bi .tuple (.cons (.lc [("offer", 14)] (.nm 14) (.seq
  (.v 3)) .no (.tup (.cons (.ix (.v 14) (.c (.int 0))) (.cons (.c (.int 0)) .nil)))) .nil))) (.cons (.set (.nm 9) (.call "_law_take" sp__law_take (.cons (.v 0) (.cons (.bin .mul (.v 1) (.v 2))
  .nil)))) (.cons (.ite (.cmp .notN (.v 5) (.c .non)) (.cons (.set (.nm 9) (.v 5)) .nil) .nil) (r6__law_offers_are_right sp_height_chain sp__law_take sp__law_same sp_reading_cost sp_does_tell_all
  sp__law_tells_all sp__law_pick sp__law_gcd sp_first_gap sp_cheapest_reading sp__law_gap sp__law_cheapest))))
def r2__law_offers_are_right (sp_height_chain : Sp3) (sp__law_take : Sp3) (sp__law_same : Sp3) (sp_reading_cost : Sp3) (sp_does_tell_all : Sp3) (sp__law_tells_all : Sp3) (sp__law_pick : Sp3)
  (sp__law_gcd : Sp3) (sp_first_gap : Sp3) (sp_cheapest_reading : Sp3) (sp__law_gap : Sp3) (sp__law_cheapest : Sp3) : SL := (.cons (.for_ (.nm 7) (.rng1 (.c (.int 4))) (.cons (.set (.nm 10) (.lc
  [("k", 13)] (.nm 13) (.rng1 (.bi .len (.cons (.v 3) .nil))) (.ex (.cmp .gt (.call "_law_take" sp__law_take (.cons (.v 0) (.cons (.c (.int 4)) .nil))) (.c (.int 0)))) (.v 13))) (.cons (.ite (.and
  (.cons (.cmp .notN (.v 4) (.c .non)) (.cons (.cmp .eq (.call "_law_take" sp__law_take (.cons (.v 0) (.cons (.c (.int 2)) .nil))) (.c (.int 0))) .nil))) (.cons (.set (.nm 10) (.bi .sorted (.cons
  (.bin .add (.lc [("k", 13)] (.nm 13) (.seq (.v 4)) (.ex (.cmp .ne (.v 13) (.call "_law_pick" sp__law_pick (.cons (.v 0) (.cons (.v 4) .nil))))) (.v 13)) (.lc [("k", 13)] (.nm 13) (.seq (.v 10)) (.ex
  (.cmp .nin (.v 13) (.v 4))) (.v 13))) .nil))) .nil) .nil) (r3__law_offers_are_right sp_height_chain sp__law_take sp__law_same sp_reading_cost sp_does_tell_all sp__law_tells_all sp__law_pick
  sp__law_gcd sp_first_gap sp_cheapest_reading sp__law_gap sp__law_cheapest)))) (r5__law_offers_are_right sp_height_chain sp__law_take sp__law_same sp_reading_cost sp_does_tell_all sp__law_tells_all
  sp__law_pick sp__law_gcd sp_first_gap sp_cheapest_reading sp__law_gap sp__law_cheapest))
def r1__law_offers_are_right (sp_height_chain : Sp3) (sp__law_take : Sp3) (sp__law_same : Sp3) (sp_reading_cost : Sp3) (sp_does_tell_all : Sp3) (sp__law_tells_all : Sp3) (sp__law_pick : Sp3)
  (sp__law_gcd : Sp3) (sp_first_gap : Sp3) (sp_cheapest_reading : Sp3) (sp__law_gap : Sp3) (sp__law_cheapest : Sp3) : SL := (.cons (.set (.nm 6) (.c (.int 0))) (.cons (.ite (.cmp .notN (.v 4) (.c
  .non)) (.cons (.set (.nm 6) (.bi .sum (.cons (.lc [("k", 13)] (.nm 13) (.seq (.v 4)) .no (.ix (.ix (.v 3) (.v 13)) (.c (.int 1)))) .nil))) (.cons (.ite (.or (.cons (.not (.call "_law_same"
  sp__law_same (.cons (.call "reading_cost" sp_reading_cost (.cons (.v 3) (.cons (.v 4) .nil))) (.cons (.v 6) .nil)))) (.cons (.cmp .ne (.bi .len (.cons (.v 4) .nil)) (.bin .sub (.bin .add (.v 1) (.v
  2)) (.call "_law_gcd" sp__law_gcd (.cons (.v 1) (.cons (.v 2) .nil))))) .nil))) (.cons (.ret (.c (.bl false))) .nil) .nil) .nil)) .nil) (r2__law_offers_are_right sp_height_chain sp__law_take
  sp__law_same sp_reading_cost sp_does_tell_all sp__law_tells_all sp__law_pick sp__law_gcd sp_first_gap sp_cheapest_reading sp__law_gap sp__law_cheapest)))
def b__law_offers_are_right (sp_height_chain : Sp3) (sp__law_take : Sp3) (sp__law_same : Sp3) (sp_reading_cost : Sp3) (sp_does_tell_all : Sp3) (sp__law_tells_all : Sp3) (sp__law_pick : Sp3)
  (sp__law_gcd : Sp3) (sp_first_gap : Sp3) (sp_cheapest_reading : Sp3) (sp__law_gap : Sp3) (sp__law_cheapest : Sp3) : SL := (.cons (.set (.nm 4) (.call "_law_cheapest" sp__law_cheapest (.cons (.v 1)
  (.cons (.v 2) (.cons (.v 3) .nil))))) (.cons (.set (.nm 5) (.call "_law_gap" sp__law_gap (.cons (.v 1) (.cons (.v 2) (.cons (.v 3) .nil))))) (.cons (.ite (.or (.cons (.not (.call "_law_same"
  sp__law_same (.cons (.call "cheapest_reading" sp_cheapest_reading (.cons (.v 1) (.cons (.v 2) (.cons (.v 3) .nil)))) (.cons (.v 4) .nil)))) (.cons (.not (.call "_law_same" sp__law_same (.cons (.call
  "first_gap" sp_first_gap (.cons (.v 1) (.cons (.v 2) (.cons (.v 3) .nil)))) (.cons (.v 5) .nil)))) .nil))) (.cons (.ret (.c (.bl false))) .nil) .nil) (r1__law_offers_are_right sp_height_chain
  sp__law_take sp__law_same sp_reading_cost sp_does_tell_all sp__law_tells_all sp__law_pick sp__law_gcd sp_first_gap sp_cheapest_reading sp__law_gap sp__law_cheapest))))
theorem k__law_offers_are_right (sp_height_chain : Sp3) (sp__law_take : Sp3) (sp__law_same : Sp3) (sp_reading_cost : Sp3) (sp_does_tell_all : Sp3) (sp__law_tells_all : Sp3) (sp__law_pick : Sp3) (sp__law_gcd : Sp3) (sp_first_gap : Sp3) (sp_cheapest_reading : Sp3) (sp__law_gap : Sp3) (sp__law_cheapest : Sp3) : chkSs c__law_offers_are_right (defScope (top 26)) (b__law_offers_are_right sp_height_chain sp__law_take sp__law_same sp_reading_cost sp_does_tell_all sp__law_tells_all sp__law_pick sp__law_gcd sp_first_gap sp_cheapest_reading sp__law_gap sp__law_cheapest) (defBody (top 26)) = true := by kernel_rfl
/-! _law_cost -/
def n__law_cost : List Str := ["draws"]
def c__law_cost : Ck := ⟨n__law_cost, bl, im, cn⟩
theorem s__law_cost : FnScope n__law_cost ["draws"] (defScope (top 27)) := ⟨rfl, rfl, rfl, by decide +kernel, rfl, by decide +kernel, by decide +kernel⟩
def b__law_cost (sp__law_take : Sp3) (sp__law_pick : Sp3) : SL := (.cons (.ret (.bin .mul (.call "_law_take" sp__law_take (.cons (.v 0) (.cons (.c (.int 5)) .nil))) (.call "_law_pick" sp__law_pick
  (.cons (.v 0) (.cons (.lst (.cons (.c (.int 1)) (.cons (.c (.int 1)) (.cons (.c (.int 1)) (.cons (.c (.int 1)) (.cons (.c (.int 1)) (.cons (.c (.int 1)) (.cons (.c (.int 3)) (.cons (.bin .pow (.c
  (.int 10)) (.c (.int 30))) .nil))))))))) .nil))))) .nil)
theorem k__law_cost (sp__law_take : Sp3) (sp__law_pick : Sp3) : chkSs c__law_cost (defScope (top 27)) (b__law_cost sp__law_take sp__law_pick) (defBody (top 27)) = true := by kernel_rfl
/-! law -/
def n_law : List Str := ["script", "draws", "p", "q", "offers", "turn", "many", "hours", "k", "hour"]
def c_law : Ck := ⟨n_law, bl, im, cn⟩
theorem s_law : FnScope n_law ["script"] (defScope (top 28)) := ⟨rfl, rfl, rfl, by decide +kernel, rfl, by decide +kernel, by decide +kernel⟩
def r2_law (sp__law_offers_are_right : Sp3) (sp__law_same : Sp3) (sp_cheapest_reading : Sp3) (sp__law_cost : Sp3) (sp__law_take : Sp3) (sp__law_shuffled : Sp3) (sp__law_gcd : Sp3) (sp__law_tide_hour :
  Sp3) (sp__law_tide_period : Sp3) (sp__law_draws : Sp3) : SL := (.cons (.set (.nm 4) (.bi .tuple (.cons (.lc [("hour", 9)] (.nm 9) (.rng1 (.c (.int 4))) .no (.tup (.cons (.v 9) (.cons (.bin .sub (.c
  (.int 3)) (.v 9)) .nil)))) .nil))) (.cons (.ret (.and (.cons (.call "_law_same" sp__law_same (.cons (.call "cheapest_reading" sp_cheapest_reading (.cons (.c (.int 2)) (.cons (.c (.int 2)) (.cons (.v
  4) .nil)))) (.cons (.tup (.cons (.c (.int 2)) (.cons (.c (.int 3)) .nil))) .nil))) (.cons (.call "_law_offers_are_right" sp__law_offers_are_right (.cons (.v 1) (.cons (.c (.int 3)) (.cons (.c (.int
  2)) (.cons (.v 4) .nil))))) .nil)))) .nil))
def r1_law (sp__law_offers_are_right : Sp3) (sp__law_same : Sp3) (sp_cheapest_reading : Sp3) (sp__law_cost : Sp3) (sp__law_take : Sp3) (sp__law_shuffled : Sp3) (sp__law_gcd : Sp3) (sp__law_tide_hour :
  Sp3) (sp__law_tide_period : Sp3) (sp__law_draws : Sp3) : SL := (.cons (.for_ (.nm 5) (.rng1 (.c (.int 2))) (.cons (.set (.nm 2) (.bin .add (.c (.int 1)) (.call "_law_take" sp__law_take (.cons (.v 1)
  (.cons (.c (.int 7)) .nil))))) (.cons (.set (.nm 3) (.bin .add (.c (.int 1)) (.call "_law_take" sp__law_take (.cons (.v 1) (.cons (.c (.int 6)) .nil))))) (.cons (.set (.nm 6) (.bin .fdiv (.bin .mul
  (.v 2) (.v 3)) (.call "_law_gcd" sp__law_gcd (.cons (.v 2) (.cons (.v 3) .nil))))) (.cons (.set (.nm 7) (.sl (.call "_law_shuffled" sp__law_shuffled (.cons (.v 1) (.cons (.lrg (.v 6)) .nil))) .no
  (.ex (.bi .max2 (.cons (.c (.int 1)) (.cons (.bi .min2 (.cons (.c (.int 40)) (.cons (.bin .sub (.v 6) (.call "_law_take" sp__law_take (.cons (.v 1) (.cons (.c (.int 3)) .nil)))) .nil))) .nil))))))
  (.cons (.set (.nm 4) (.lc [("hour", 9)] (.nm 9) (.seq (.v 7)) .no (.tup (.cons (.bin .add (.v 9) (.bin .mul (.v 6) (.call "_law_take" sp__law_take (.cons (.v 1) (.cons (.c (.int 3)) .nil))))) (.cons
  (.call "_law_cost" sp__law_cost (.cons (.v 1) .nil)) .nil))))) (.cons (.ite (.not (.call "_law_offers_are_right" sp__law_offers_are_right (.cons (.v 1) (.cons (.v 2) (.cons (.v 3) (.cons (.bi .tuple
  (.cons (.v 4) .nil)) .nil)))))) (.cons (.ret (.c (.bl false))) .nil) .nil) .nil))))))) (r2_law sp__law_offers_are_right sp__law_same sp_cheapest_reading sp__law_cost sp__law_take sp__law_shuffled
  sp__law_gcd sp__law_tide_hour sp__law_tide_period sp__law_draws))
def b_law (sp__law_offers_are_right : Sp3) (sp__law_same : Sp3) (sp_cheapest_reading : Sp3) (sp__law_cost : Sp3) (sp__law_take : Sp3) (sp__law_shuffled : Sp3) (sp__law_gcd : Sp3) (sp__law_tide_hour :
  Sp3) (sp__law_tide_period : Sp3) (sp__law_draws : Sp3) : SL := (.cons (.set (.nm 1) (.call "_law_draws" sp__law_draws (.cons (.v 0) (.cons (.c (.int 700)) .nil)))) (.cons (.set (.nm 2) (.call
  "_law_tide_period" sp__law_tide_period (.cons (.v 1) .nil))) (.cons (.set (.nm 3) (.call "_law_tide_period" sp__law_tide_period (.cons (.v 1) .nil))) (.cons (.set (.nm 4) (.lc [("k", 8)] (.nm 8)
  (.rng1 (.call "_law_take" sp__law_take (.cons (.v 1) (.cons (.c (.int 13)) .nil)))) .no (.tup (.cons (.call "_law_tide_hour" sp__law_tide_hour (.cons (.v 1) (.cons (.c (.int 40)) .nil))) (.cons
  (.call "_law_cost" sp__law_cost (.cons (.v 1) .nil)) .nil))))) (.cons (.ite (.not (.call "_law_offers_are_right" sp__law_offers_are_right (.cons (.v 1) (.cons (.v 2) (.cons (.v 3) (.cons (.bi .tuple
  (.cons (.v 4) .nil)) .nil)))))) (.cons (.ret (.c (.bl false))) .nil) .nil) (r1_law sp__law_offers_are_right sp__law_same sp_cheapest_reading sp__law_cost sp__law_take sp__law_shuffled sp__law_gcd
  sp__law_tide_hour sp__law_tide_period sp__law_draws))))))
theorem k_law (sp__law_offers_are_right : Sp3) (sp__law_same : Sp3) (sp_cheapest_reading : Sp3) (sp__law_cost : Sp3) (sp__law_take : Sp3) (sp__law_shuffled : Sp3) (sp__law_gcd : Sp3) (sp__law_tide_hour : Sp3) (sp__law_tide_period : Sp3) (sp__law_draws : Sp3) : chkSs c_law (defScope (top 28)) (b_law sp__law_offers_are_right sp__law_same sp_cheapest_reading sp__law_cost sp__law_take sp__law_shuffled sp__law_gcd sp__law_tide_hour sp__law_tide_period sp__law_draws) (defBody (top 28)) = true := by kernel_rfl
end K83
set_option Elab.async false
set_option linter.all false
set_option maxRecDepth 100000
set_option maxHeartbeats 4000000
/-! parts of two periods' rests, joined by hours: plain -/
namespace K83
open G3 L2 G5
variable {p q : Nat}
def jstep (p q : Nat) (L : List Int) (h : Int) : List Int := L.map (jf (getZ L (h % p)) (getZ L (p + h % q)))
def LB (p q : Nat) (hs : List Int) : List Int := hs.foldl (jstep p q) ((List.range (p + q)).map fun k : Nat => (k : Int))
theorem LB_snoc {hs : List Int} {h : Int} : LB p q (hs ++ [h]) = jstep p q (LB p q hs) h := by unfold LB; rw [List.foldl_append]; rfl
theorem snoc_ind {α : Type} {P : List α → Prop} (h0 : P []) (h1 : ∀ l a, P l → P (l ++ [a])) : ∀ l, P l := by
  have key : ∀ l : List α, P l.reverse := by
    intro l
    induction l with
    | nil => exact h0
    | cons a l ih => rw [List.reverse_cons]; exact h1 _ _ ih
  intro l
  have := key l.reverse
  rwa [List.reverse_reverse] at this
theorem LB_join (hp : 0 < p) (hq : 0 < q) : ∀ hs, Join p q hs (LB p q hs) :=
  snoc_ind Join.zero fun l a ih => by rw [LB_snoc]; exact ih.step hp hq
/-- less is joined by fewer hours -/
theorem lab_lab {hs hs' L L' : List Int} (j : Join p q hs L) (j' : Join p q hs' L') (sub : ∀ h ∈ hs', h ∈ hs) {x : Int} (h0 : 0 ≤ x) (h1 : x < (p : Int) + q) : getZ L (getZ L' x) = getZ L x :=
  (j'.con (fun y => getZ L y = getZ L x) (fun h hh => by rw [j.eq h (sub h hh)]) x h0 h1).mp rfl
theorem lab_le {hs hs' L L' : List Int} (j : Join p q hs L) (j' : Join p q hs' L') (sub : ∀ h ∈ hs', h ∈ hs) {x : Int} (h0 : 0 ≤ x) (h1 : x < (p : Int) + q) : getZ L x ≤ getZ L' x := by
  obtain ⟨a, b, _⟩ := j'.lab x h0 h1
  have := j.le _ a b
  rwa [lab_lab j j' sub h0 h1] at this
theorem getZ_ext {L L' : List Int} (hl : L.length = L'.length) (h : ∀ x : Int, 0 ≤ x → x < L.length → getZ L x = getZ L' x) : L = L' := by
  refine List.ext_getElem hl fun i h1 h2 => ?_
  have := h i (by omega) (by omega)
  unfold getZ at this
  rw [List.getD_eq_getElem?_getD, List.getD_eq_getElem?_getD, Int.toNat_natCast, List.getElem?_eq_getElem h1, List.getElem?_eq_getElem h2] at this
  exact this
theorem join_uniq {hs hs' L L' : List Int} (j : Join p q hs L) (j' : Join p q hs' L') (e : ∀ h, h ∈ hs ↔ h ∈ hs') : L = L' := by
  refine getZ_ext (by rw [j.len, j'.len]) fun x h0 h1 => ?_
  rw [j.len] at h1
  exact Int.le_antisymm (lab_le j j' (fun h hh => (e h).mpr hh) h0 (by omega)) (lab_le j' j (fun h hh => (e h).mp hh) h0 (by omega))
theorem join_eq (hp : 0 < p) (hq : 0 < q) {hs L : List Int} (j : Join p q hs L) : L = LB p q hs := join_uniq j (LB_join hp hq hs) fun _ => Iff.rfl
theorem LB_same (hp : 0 < p) (hq : 0 < q) {hs hs' : List Int} (e : ∀ h, h ∈ hs ↔ h ∈ hs') : LB p q hs = LB p q hs' := join_uniq (LB_join hp hq hs) (LB_join hp hq hs') e
/-- an hour's places are in one part -/
def sm (p q : Nat) (hs : List Int) (h : Int) : Prop := getZ (LB p q hs) (h % p) = getZ (LB p q hs) (p + h % q)
instance {hs : List Int} {h : Int} : Decidable (sm p q hs h) := by unfold sm; infer_instance
theorem jf_self {a l : Int} : jf a a l = l := by
  unfold jf
  split
  · rename_i c; rcases c with c | c <;> omega
  · rfl
theorem map_jf_self {L : List Int} {a : Int} : L.map (jf a a) = L := by
  have : jf a a = id := funext fun l => jf_self
  rw [this, List.map_id]
theorem LB_skip {hs : List Int} {h : Int} (s : sm p q hs h) : LB p q (hs ++ [h]) = LB p q hs := by
  rw [LB_snoc]; unfold jstep; rw [show getZ (LB p q hs) (h % p) = getZ (LB p q hs) (p + h % q) from s, map_jf_self]
/-! ### the number of parts -/
def cnt (n : Nat) (L : List Int) : Nat := ((List.range n).filter fun k : Nat => decide (getZ L k = k)).length
def parts (p q : Nat) (hs : List Int) : Nat := cnt (p + q) (LB p q hs)
theorem parts_nil : parts p q [] = p + q := by
  have g : ∀ k, k ∈ List.range (p + q) → decide (getZ (LB p q []) ((k : Nat) : Int) = k) = true := by
    intro k hk
    have hk := List.mem_range.mp hk
    unfold LB getZ
    rw [List.foldl_nil, List.getD_eq_getElem?_getD, List.getElem?_map, List.getElem?_range (by omega)]
    simp
  unfold parts cnt
  rw [List.filter_eq_self.mpr g, List.length_range]
theorem filter_drop {P : Nat → Bool} {m : Nat} : ∀ (n : Nat), m < n → P m = true → ((List.range n).filter fun k => P k && !decide (k = m)).length + 1 = ((List.range n).filter P).length := by
  intro n
  induction n with
  | zero => intro h; omega
  | succ n ih =>
    intro h hm
    rw [List.range_succ, List.filter_append, List.filter_append, List.length_append, List.length_append]
    by_cases e : m = n
    · subst e
      have : (List.range m).filter (fun k => P k && !decide (k = m)) = (List.range m).filter P := by
        refine List.filter_congr fun k hk => ?_
        have := List.mem_range.mp hk
        have : decide (k = m) = false := decide_eq_false (by omega)
        rw [this]; simp
      rw [this]
      simp [hm]
    · have e' : ¬ n = m := fun z => e z.symm
      have := ih (by omega) hm
      have : [n].filter (fun k => P k && !decide (k = m)) = [n].filter P := by simp [List.filter_cons, e']
      rw [this]; omega
theorem parts_add (hp : 0 < p) (hq : 0 < q) {hs : List Int} {h : Int} : parts p q (hs ++ [h]) + (if sm p q hs h then 0 else 1) = parts p q hs := by
  by_cases s : sm p q hs h
  · rw [if_pos s]; unfold parts; rw [LB_skip s]; rfl
  · rw [if_neg s]
    have j := LB_join hp hq hs
    obtain ⟨a0, a1⟩ := rA (q := q) hp h
    obtain ⟨b0, b1⟩ := rB (p := p) hq h
    obtain ⟨la0, la1, la2⟩ := j.lab _ a0 a1
    obtain ⟨lb0, lb1, lb2⟩ := j.lab _ b0 b1
    unfold sm at s
    unfold parts
    rw [LB_snoc]
    unfold jstep
    have len := j.len
    generalize LB p q hs = L at *
    generalize getZ L (h % p) = one at *
    generalize getZ L (p + h % q) = other at *
    obtain ⟨m, em⟩ := Int.eq_ofNat_of_zero_le (show 0 ≤ max one other by omega)
    have hm : getZ L (max one other) = max one other := by
      rcases Int.le_total one other with c | c
      · rw [Int.max_eq_right c]; exact lb2
      · rw [Int.max_eq_left c]; exact la2
    unfold cnt
    rw [← filter_drop (m := m) (P := fun k : Nat => decide (getZ L k = k)) (p + q) (by omega) (by rw [← em]; exact decide_eq_true hm)]
    congr 2
    refine List.filter_congr fun k hk => ?_
    have hk := List.mem_range.mp hk
    rw [getZ_map (by omega) (by omega)]
    obtain ⟨x0, x1, x2⟩ := j.lab k (by omega) (by omega)
    have lk := j.le k (by omega) (by omega)
    rw [Bool.eq_iff_iff]
    simp only [Bool.and_eq_true, Bool.not_eq_true', decide_eq_true_eq, decide_eq_false_iff_not]
    unfold jf
    split
    · rename_i c
      constructor
      · intro e
        rcases c with c | c
        · -- one is k's label
          by_cases o : one ≤ other
          · rw [Int.min_eq_left o] at e
            exact ⟨by omega, fun z => by omega⟩
          · rw [Int.min_eq_right (by omega)] at e
            exfalso
            omega
        · by_cases o : one ≤ other
          · rw [Int.min_eq_left o] at e
            exfalso
            omega
          · rw [Int.min_eq_right (by omega)] at e
            exact ⟨by omega, fun z => by omega⟩
      · rintro ⟨e1, e2⟩
        omega
    · rename_i c
      constructor
      · intro e
        exact ⟨e, fun z => by subst z; apply c; omega⟩
      · rintro ⟨e1, e2⟩; exact e1
theorem parts_le_add (hp : 0 < p) (hq : 0 < q) {hs : List Int} : ∀ ms : List Int, parts p q (hs ++ ms) ≤ parts p q hs ∧ parts p q hs ≤ parts p q (hs ++ ms) + ms.length := by
  refine snoc_ind ⟨by rw [List.append_nil]; exact Nat.le_refl _, by rw [List.append_nil]; exact Nat.le_refl _⟩ fun l a ih => ?_
  have := parts_add hp hq (hs := hs ++ l) (h := a)
  rw [List.append_assoc] at this
  rw [List.length_append, List.length_singleton]
  split at this <;> omega
theorem parts_same (hp : 0 < p) (hq : 0 < q) {hs hs' : List Int} (e : ∀ h, h ∈ hs ↔ h ∈ hs') : parts p q hs = parts p q hs' := by unfold parts; rw [LB_same hp hq e]
theorem parts_mono (hp : 0 < p) (hq : 0 < q) {hs hs' : List Int} (sub : ∀ h ∈ hs, h ∈ hs') : parts p q hs' ≤ parts p q hs := by
  rw [parts_same hp hq (hs := hs') (hs' := hs ++ hs') fun h => by
    rw [List.mem_append]
    exact ⟨.inr, fun z => z.elim (sub h) id⟩]
  exact (parts_le_add hp hq hs').1
/-! ### the cheapest -/
def kr (p q : Nat) (hour : Int → Int) (T : List Int) (k : Int) : List Int := if sm p q (T.map hour) (hour k) then T else T ++ [k]
def krs (p q : Nat) (hour : Int → Int) (ord : List Int) : List Int := ord.foldl (kr p q hour) []
variable {hour : Int → Int}
theorem krs_snoc {ord : List Int} {k : Int} : krs p q hour (ord ++ [k]) = kr p q hour (krs p q hour ord) k := by unfold krs; rw [List.foldl_append]; rfl
theorem krs_LB : ∀ ord, LB p q ((krs p q hour ord).map hour) = LB p q (ord.map hour) := by
  refine snoc_ind rfl fun l a ih => ?_
  rw [krs_snoc, List.map_append, List.map_singleton]
  unfold kr
  split
  · rename_i s
    have s' : sm p q (l.map hour) (hour a) := by unfold sm at s ⊢; rwa [ih] at s
    rw [LB_skip s', ih]
  · rw [List.map_append, List.map_singleton, LB_snoc, LB_snoc, ih]
theorem krs_len (hp : 0 < p) (hq : 0 < q) : ∀ ord, (krs p q hour ord).length + parts p q (ord.map hour) = p + q := by
  refine snoc_ind (by rw [List.map_nil, parts_nil]; exact Nat.zero_add _) fun l a ih => ?_
  rw [krs_snoc, List.map_append, List.map_singleton]
  have e := parts_add hp hq (hs := l.map hour) (h := hour a)
  have c : sm p q ((krs p q hour l).map hour) (hour a) ↔ sm p q (l.map hour) (hour a) := by unfold sm; rw [krs_LB]
  unfold kr
  by_cases s : sm p q (l.map hour) (hour a)
  · rw [if_pos s] at e; rw [if_pos (c.mpr s)]; omega
  · rw [if_neg s] at e; rw [if_neg (fun z => s (c.mp z)), List.length_append, List.length_singleton]; omega
/-- a later part's own -/
theorem krs_app {pre : List Int} : ∀ suf, ∃ T, krs p q hour (pre ++ suf) = krs p q hour pre ++ T ∧ T.Sublist suf := by
  refine snoc_ind ⟨[], by rw [List.append_nil, List.append_nil], .slnil⟩ fun l a ⟨T, e, s⟩ => ?_
  rw [← List.append_assoc, krs_snoc, e]
  unfold kr
  split
  · exact ⟨T, rfl, s.trans (List.sublist_append_left _ _)⟩
  · exact ⟨T ++ [a], by rw [List.append_assoc], s.append (List.Sublist.refl _)⟩
theorem krs_sub {ord : List Int} : (krs p q hour ord).Sublist ord := by
  obtain ⟨T, e, s⟩ := krs_app (p := p) (q := q) (hour := hour) (pre := []) ord
  rw [List.nil_append] at e
  rw [e]; exact s
end K83
set_option Elab.async false
set_option linter.all false
set_option maxRecDepth 100000
set_option maxHeartbeats 4000000
/-! no cheaper offers tell all: plain -/
namespace K83
open G3 L2 G5
variable {p q : Nat} {hour : Int → Int}
/-- a set's mark over an order -/
def mk (C : List Int) (k : Int) : Int := if k ∈ C then 1 else 0
theorem abel {cost : Int → Int} {f g : Int → Int} : ∀ (l : List Int) (c : Int), 0 ≤ c → (∀ k ∈ l, c ≤ cost k) → l.Pairwise (fun a b => cost a ≤ cost b) → (∀ s, s <:+ l → (s.map g).sum ≤ (s.map f).sum) →
    c * ((l.map f).sum - (l.map g).sum) ≤ (l.map fun k => cost k * f k).sum - (l.map fun k => cost k * g k).sum
  | [], c, _, _, _, _ => by simp
  | x :: l, c, h0, hc, hp, hs => by
    have cx := hc x List.mem_cons_self
    obtain ⟨p1, p2⟩ := List.pairwise_cons.mp hp
    have ih := abel l (cost x) (by omega) p1 p2 fun s hs' => hs s (hs'.trans (List.suffix_cons x l))
    have hl := hs l (List.suffix_cons x l)
    have ha := hs (x :: l) (List.suffix_refl _)
    simp only [List.map_cons, List.sum_cons] at ha ⊢
    generalize (l.map f).sum = F at *
    generalize (l.map g).sum = G at *
    generalize (l.map fun k => cost k * f k).sum = CF at *
    generalize (l.map fun k => cost k * g k).sum = CG at *
    generalize f x = fx at *
    generalize g x = gx at *
    generalize cost x = y at *
    have e1 : c * (fx + F - (gx + G)) ≤ y * (fx + F - (gx + G)) := Int.mul_le_mul_of_nonneg_right cx (by omega)
    have e2 : y * (fx + F - (gx + G)) = y * fx - y * gx + y * (F - G) := by
      rw [Int.mul_sub, Int.mul_add, Int.mul_add, Int.mul_sub]; omega
    omega
theorem sum_mk {C : List Int} {w : Int → Int} : ∀ {ord : List Int}, (ord.map fun k => w k * mk C k).sum = ((ord.filter fun k => decide (k ∈ C)).map w).sum
  | [] => rfl
  | x :: l => by
    have ih := sum_mk (C := C) (w := w) (ord := l)
    rw [List.map_cons, List.sum_cons, ih, List.filter_cons]
    unfold mk
    by_cases h : x ∈ C
    · rw [if_pos h, if_pos (decide_eq_true h), List.map_cons, List.sum_cons]; omega
    · rw [if_neg h, if_neg (by simp [h])]; omega
theorem nodup_perm {α : Type} [DecidableEq α] {l m : List α} (hl : l.Nodup) (hm : m.Nodup) (h : ∀ x, x ∈ l ↔ x ∈ m) : l.Perm m := by
  rw [List.perm_iff_count]
  intro a
  have key : ∀ {l : List α}, l.Nodup → l.count a = if a ∈ l then 1 else 0 := by
    intro l
    induction l with
    | nil => intro _; rfl
    | cons b l ih =>
      intro hn
      obtain ⟨n1, n2⟩ := List.nodup_cons.mp hn
      rw [List.count_cons, ih n2]
      by_cases e : b = a
      · subst e; simp [n1]
      · have e' : ¬ a = b := fun z => e z.symm
        simp [e, e']
  rw [key hl, key hm]
  by_cases c : a ∈ l
  · rw [if_pos c, if_pos ((h a).mp c)]
  · rw [if_neg c, if_neg (fun z => c ((h a).mpr z))]
theorem sum_perm {l m : List Int} (h : l.Perm m) : l.sum = m.sum := by
  induction h with
  | nil => rfl
  | cons x _ ih => rw [List.sum_cons, List.sum_cons, ih]
  | swap x y l => simp only [List.sum_cons]; omega
  | trans _ _ h1 h2 => rw [h1, h2]
theorem filter_mem {C ord : List Int} (hC : C.Nodup) (ho : ord.Nodup) (sub : ∀ k ∈ C, k ∈ ord) : (ord.filter fun k => decide (k ∈ C)).Perm C :=
  nodup_perm (ho.sublist List.filter_sublist) hC fun x => by
    rw [List.mem_filter, decide_eq_true_eq]
    exact ⟨fun z => z.2, fun z => ⟨sub x z, z⟩⟩
theorem sum_of {C ord : List Int} {w : Int → Int} (hC : C.Nodup) (ho : ord.Nodup) (sub : ∀ k ∈ C, k ∈ ord) : (C.map w).sum = (ord.map fun k => w k * mk C k).sum := by
  rw [sum_mk]; exact (sum_perm ((filter_mem hC ho sub).map w)).symm
theorem sum_ones : ∀ {l : List Int} {C : List Int}, (l.map (mk C)).sum = (((l.filter fun k => decide (k ∈ C)).length : Nat) : Int)
  | [], _ => rfl
  | x :: l, C => by
    rw [List.map_cons, List.sum_cons, sum_ones, List.filter_cons]
    unfold mk
    by_cases h : x ∈ C
    · rw [if_pos h, if_pos (decide_eq_true h), List.length_cons]; omega
    · rw [if_neg h, if_neg (by simp [h])]; omega
/-- what the cheapest pay is the least -/
theorem krs_least (hp : 0 < p) (hq : 0 < q) {ord C : List Int} {cost : Int → Int} (ho : ord.Nodup) (hs : ord.Pairwise fun a b => cost a ≤ cost b) (h0 : ∀ k ∈ ord, 0 ≤ cost k) (hC : C.Nodup) (sub : ∀ k ∈ C, k ∈ ord)
    (tell : parts p q (C.map hour) ≤ parts p q (ord.map hour)) : ((krs p q hour ord).map cost).sum ≤ (C.map cost).sum := by
  have kn : (krs p q hour ord).Nodup := ho.sublist krs_sub
  rw [sum_of hC ho sub, sum_of kn ho fun k hk => krs_sub.subset hk]
  have := abel (cost := cost) (f := mk C) (g := mk (krs p q hour ord)) ord 0 (Int.le_refl _) h0 hs ?_
  · rw [Int.zero_mul] at this; omega
  intro s ⟨pre, e⟩
  subst e
  rw [sum_ones, sum_ones]
  obtain ⟨T, eT, sT⟩ := krs_app (p := p) (q := q) (hour := hour) (pre := pre) s
  obtain ⟨n1, n2, n3⟩ := List.nodup_append.mp ho
  -- the taken ones of the later part
  have eq1 : (s.filter fun k => decide (k ∈ krs p q hour (pre ++ s))).length = T.length := by
    refine List.Perm.length_eq (nodup_perm (n2.sublist List.filter_sublist) (n2.sublist sT) fun x => ?_)
    rw [List.mem_filter, decide_eq_true_eq, eT, List.mem_append]
    constructor
    · rintro ⟨a, b | b⟩
      · exact absurd rfl (n3 x ((krs_sub (ord := pre)).subset b) x a)
      · exact b
    · intro z; exact ⟨sT.subset z, .inr z⟩
  have l1 := krs_len hp hq (hour := hour) pre
  have l2 := krs_len hp hq (hour := hour) (pre ++ s)
  rw [eT, List.length_append] at l2
  have l3 := (parts_le_add hp hq (hs := pre.map hour) ((s.filter fun k => decide (k ∈ C)).map hour)).2
  rw [List.length_map] at l3
  have l4 : parts p q (pre.map hour ++ (s.filter fun k => decide (k ∈ C)).map hour) ≤ parts p q (C.map hour) := by
    refine parts_mono hp hq fun h hh => ?_
    obtain ⟨k, hk, rfl⟩ := List.mem_map.mp hh
    rcases List.mem_append.mp (sub k hk) with z | z
    · exact List.mem_append_left _ (List.mem_map_of_mem z)
    · exact List.mem_append_right _ (List.mem_map_of_mem (List.mem_filter.mpr ⟨z, decide_eq_true hk⟩))
  rw [eq1]
  omega
end K83
set_option Elab.async false
set_option linter.all false
set_option maxRecDepth 100000
set_option maxHeartbeats 4000000
/-! the offers' functions, walked -/
namespace K83
open G3 L2 G3w G5
abbrev K3 := G3.K3
abbrev Addr := PySem.Addr
variable {p q : Nat}
/-- a loop whose word tells of the items that are left -/
theorem forW_rest {α : Type} {keep : Mp → Prop} {tn : Tn} {body : TS3} {D_ : Ends3} {τ0 : S3} {M1 : Mp} (g : α → D) (l : List α) (P : List α → S3 → Mp → Prop) (h0 : P l τ0 M1) (hk : ∀ r τ M, P r τ M → keep M)
    (hb : ∀ a r τ M, a ∈ l → P (a :: r) τ M → wpG tn (g a) M τ fun τ2 => body { D_ with nx := fun τ M => wk (P r τ) M, ct := fun τ M => wk (P r τ) M, bk := D_.nx } τ2 M)
    (hQ : ∀ τ M, P [] τ M → D_.nx τ M) : forW (l.map g) keep tn body D_ τ0 M1 := by
  refine ⟨fun i τ M => P (l.drop i) τ M, h0, ?_⟩
  intro i τ M h hi
  rw [List.length_map] at hi ⊢
  refine ⟨hk _ _ _ h, fun d hd => ?_, fun e => ?_⟩
  · rw [List.getElem?_map] at hd
    cases ea : l[i]? with
    | none => rw [ea] at hd; cases hd
    | some a =>
      rw [ea] at hd; cases hd
      have hil := (List.getElem?_eq_some_iff.mp ea).1
      have e2 : l.drop i = a :: l.drop (i + 1) := by
        rw [List.drop_eq_getElem_cons hil]
        rw [List.getElem?_eq_getElem hil] at ea
        cases ea; rfl
      rw [e2] at h
      exact hb a _ τ M (List.mem_of_getElem? ea) h
  · subst e
    rw [List.drop_length] at h
    exact .of (hQ τ M h)
/-! ### how many parts -/
def ddp (L : List Int) : List Int := L.foldl (fun ks k => if k ∈ ks then ks else ks ++ [k]) []
theorem ddp_snoc {L : List Int} {k : Int} : ddp (L ++ [k]) = if k ∈ ddp L then ddp L else ddp L ++ [k] := by unfold ddp; rw [List.foldl_append]; rfl
theorem ddp_ok : ∀ L : List Int, (ddp L).Nodup ∧ (∀ x, x ∈ ddp L ↔ x ∈ L) ∧ (ddp L).length ≤ L.length := by
  refine snoc_ind ⟨List.nodup_nil, fun x => Iff.rfl, Nat.le_refl _⟩ fun l a ⟨n, m, le⟩ => ?_
  rw [ddp_snoc]
  split
  · rename_i h
    refine ⟨n, fun x => ?_, by rw [List.length_append]; omega⟩
    rw [m, List.mem_append, List.mem_singleton]
    exact ⟨.inl, fun z => z.elim id fun e => by rw [e]; exact (m a).mp h⟩
  · rename_i h
    refine ⟨List.nodup_append.mpr ⟨n, by simp, fun x hx y hy e => ?_⟩, fun x => ?_, by rw [List.length_append, List.length_append]; simp; omega⟩
    · rw [List.mem_singleton] at hy; subst hy; subst e; exact h hx
    · rw [List.mem_append, List.mem_append, m]
theorem ddp_len {hs L : List Int} (j : Join p q hs L) : (ddp L).length = cnt (p + q) L := by
  obtain ⟨n, m, _⟩ := ddp_ok L
  have e : (((List.range (p + q)).filter fun k : Nat => decide (getZ L k = k)).map fun k : Nat => (k : Int)).length = cnt (p + q) L := List.length_map _
  rw [← e]
  refine List.Perm.length_eq (nodup_perm n ?_ fun x => ?_)
  · have nn : ((List.range (p + q)).filter fun k : Nat => decide (getZ L k = k)).Nodup := List.nodup_range.sublist List.filter_sublist
    unfold List.Nodup at nn ⊢
    rw [List.pairwise_map]
    exact nn.imp fun h z => h (by omega)
  · rw [m, List.mem_map]
    have len := j.len
    constructor
    · intro hx
      obtain ⟨i, hi, e⟩ := List.getElem_of_mem hx
      have g := getZ_get hi
      rw [List.getElem?_eq_getElem hi, e] at g
      have g := Option.some.inj g
      obtain ⟨a, b, c⟩ := j.lab i (by omega) (by omega)
      rw [← g] at a b c
      refine ⟨x.toNat, List.mem_filter.mpr ⟨List.mem_range.mpr (by omega), ?_⟩, by omega⟩
      rw [Int.toNat_of_nonneg a]
      exact decide_eq_true c
    · rintro ⟨k, hk, rfl⟩
      obtain ⟨k1, k2⟩ := List.mem_filter.mp hk
      have k1 := List.mem_range.mp k1
      have k2 := of_decide_eq_true k2
      rw [← k2]
      exact getZ_mem (by omega) (by omega)
def sp_count_parts : Sp3 := fun ds M Q => ∃ (p q : Nat) (r : Addr) (hs : List Int), ds = [.int p, .int q, .ref r] ∧ M r = some (.lst (hs.map .int)) ∧ 0 < p ∧ 0 < q ∧ p ≤ 100 ∧ q ≤ 100 ∧ Q (.int (parts p q hs : Nat)) M
theorem t_count_parts : ∀ ds M Q, sp_count_parts ds M Q → G3.wpSs (b_count_parts G5.sp_joined_rests) (rets Q) (st3 n_count_parts.length ds) M := by
  rintro ds M Q ⟨p, q, r, hs, rfl, er, hp, hq, p1, q1, k⟩
  simp only [n_count_parts, b_count_parts, G3.wpSs, G3.wpS, G3.wpE, G3.wpEL, G3.wpO, G3.wpTO, G3.wpT, G3.wpAnd, G3.wpOr, G3.wpAndT, G3.wpOrT, G3.wpI, G3.wpG, G3.wpGs, G3.wipe3, G3.GV.d, G3.st3, G3.bi3, G3.me3, G3.Me.ty, G3.rets, List.replicate, G3.wl, Nat.reduceAdd, Nat.reduceSub, reduceIte]
  refine ⟨p, q, r, hs, rfl, er, hp, hq, p1, q1, fun L j => ?_⟩
  have eL := join_eq hp hq j
  subst eL
  generalize eL : LB p q hs = L at *
  intro a ha
  rw [seqI_ref put_same]
  have hl : L.length < PySem.sizeLine := by rw [sline, j.len]; omega
  intro b hb
  refine ⟨fun i acc M' => acc = (ddp (L.take i)).map (fun k => ((.inl k : L2.Key), D.bl true)) ∧ M' = put (put M a (.lst (L.map .int))) b (.dic acc), ⟨rfl, rfl⟩, ?_⟩
  rintro i acc M' ⟨rfl, rfl⟩ hi
  refine ⟨put_keep put_same hb, put_same, fun d hd => ?_, fun e => ?_⟩
  · rw [List.getElem?_map] at hd
    cases hz : L[i]? with
    | none => rw [hz] at hd; cases hd
    | some l =>
      rw [hz] at hd
      cases hd
      have e1 : putD ((ddp (L.take i)).map (fun k => ((.inl k : L2.Key), D.bl true))) (.inl l) (.bl true) = (ddp (L.take (i + 1))).map (fun k => ((.inl k : L2.Key), D.bl true)) := by
        rw [List.take_add_one, hz, show ((some l).toList : List Int) = [l] from rfl, ddp_snoc]
        unfold putD
        have e2 : ((ddp (L.take i)).map (fun k => ((.inl k : L2.Key), D.bl true))).any (fun kv => decide (kv.1 = .inl l)) = decide (l ∈ ddp (L.take i)) := by
          rw [List.any_map, Bool.eq_iff_iff, List.any_eq_true, decide_eq_true_eq]
          constructor
          · rintro ⟨x, hx, e⟩
            have e := Sum.inl.inj (of_decide_eq_true e)
            rw [← e]; exact hx
          · intro h; exact ⟨l, h, decide_eq_true rfl⟩
        rw [e2]
        by_cases c : l ∈ ddp (L.take i)
        · rw [if_pos (decide_eq_true c), if_pos c, List.map_map]
          refine List.map_congr_left fun x hx => ?_
          show (if (.inl x : L2.Key) = .inl l then ((.inl x : L2.Key), D.bl true) else (.inl x, .bl true)) = _
          split <;> rfl
        · rw [if_neg (by simp [c]), if_neg c, List.map_append]; rfl
      simp only [G3.wpSs, G3.wpS, G3.wpE, G3.wpEL, G3.wpO, G3.wpTO, G3.wpT, G3.wpAnd, G3.wpOr, G3.wpAndT, G3.wpOrT, G3.wpI, G3.wpG, G3.wpGs, G3.wipe3, G3.GV.d, G3.st3, G3.bi3, G3.me3, G3.Me.ty, G3.rets, List.replicate, G3.wl, Nat.reduceAdd, Nat.reduceSub, reduceIte]
      show _ < _ ∧ _
      refine ⟨?_, put_same, ?_⟩
      · have := (ddp_ok (L.take i)).2.2
        have : (L.take i).length ≤ L.length := by rw [List.length_take]; omega
        omega
      · refine wk.of ⟨?_, ?_⟩
        · exact e1
        · rw [put_put]
  · rw [List.length_map] at e
    subst e
    rw [List.take_length]
    refine wk.of ?_
    dsimp only
    rw [len3_dic put_same, List.length_map, ddp_len j]
    unfold parts at k
    rw [eL] at k
    exact wk_sub ((Sub.new ha).trans (Sub.new hb)) k
/-! ### offers -/
abbrev Of := List (Int × Int)
def hr (of : Of) (k : Int) : Int := (of.getD k.toNat (0, 0)).1
def co (of : Of) (k : Int) : Int := (of.getD k.toNat (0, 0)).2
theorem ix_of {of : Of} {k : Int} {M : Mp} {Q : K3} (h0 : 0 ≤ k) (h1 : k < of.length) : ix3 (encM of) (.int k) M Q = Q (.tup [.int (hr of k), .int (co of k)]) M := by
  unfold encM
  rw [ix3_tup, atI_map, atI_some h0 h1, Option.map_some, some3_some]
  unfold hr co
  rw [List.getD_eq_getElem?_getD, List.getElem?_eq_getElem (by omega)]
  rfl
def inR (of : Of) (C : List Int) : Prop := ∀ k ∈ C, 0 ≤ k ∧ k < of.length
def gcdE (p q : Nat) : Int := (Nat.gcd p q : Nat)
def sp_does_tell_all : Sp3 := fun ds M Q => ∃ (p q : Nat) (of : Of) (C : List Int), ds = [.int p, .int q, encM of, .tup (C.map .int)] ∧ 0 < p ∧ 0 < q ∧ p ≤ 100 ∧ q ≤ 100 ∧ inR of C ∧ C.length ≤ 1000 ∧ Q (.bl (decide (parts p q (C.map (hr of)) = Nat.gcd p q))) M
theorem t_does_tell_all : ∀ ds M Q, sp_does_tell_all ds M Q → G3.wpSs (b_does_tell_all sp_count_parts) (rets Q) (st3 n_does_tell_all.length ds) M := by
  rintro ds M Q ⟨p, q, of, C, rfl, hp, hq, p1, q1, hC, hl, k⟩
  simp only [n_does_tell_all, b_does_tell_all, G3.wpSs, G3.wpS, G3.wpE, G3.wpEL, G3.wpO, G3.wpTO, G3.wpT, G3.wpAnd, G3.wpOr, G3.wpAndT, G3.wpOrT, G3.wpI, G3.wpG, G3.wpGs, G3.wipe3, G3.GV.d, G3.st3, G3.bi3, G3.me3, G3.Me.ty, G3.rets, List.replicate, G3.wl, Nat.reduceAdd, Nat.reduceSub, reduceIte]
  refine lc_mp D.int C (fun k => .int (hr of k)) (fun _ _ => trivial) (fun a ha M' sb Qe h => ?_) (by rw [sline]; omega) ?_
  · obtain ⟨h0, h1⟩ := hC a ha
    simp only [ix_of h0 h1, G3.wpSs, G3.wpS, G3.wpE, G3.wpEL, G3.wpO, G3.wpTO, G3.wpT, G3.wpAnd, G3.wpOr, G3.wpAndT, G3.wpOrT, G3.wpI, G3.wpG, G3.wpGs, G3.wipe3, G3.GV.d, G3.st3, G3.bi3, G3.me3, G3.Me.ty, G3.rets, List.replicate, G3.wl, Nat.reduceAdd, Nat.reduceSub, reduceIte]
    exact h _ .refl
  · rw [show (C.map fun k => D.int (hr of k)) = (C.map (hr of)).map .int by rw [List.map_map]; rfl]
    intro a ha
    refine ⟨p, q, a, _, rfl, put_same, hp, hq, p1, q1, ?_⟩
    simp only [Int.natAbs_natCast, G3.wpSs, G3.wpS, G3.wpE, G3.wpEL, G3.wpO, G3.wpTO, G3.wpT, G3.wpAnd, G3.wpOr, G3.wpAndT, G3.wpOrT, G3.wpI, G3.wpG, G3.wpGs, G3.wipe3, G3.GV.d, G3.st3, G3.bi3, G3.me3, G3.Me.ty, G3.rets, List.replicate, G3.wl, Nat.reduceAdd, Nat.reduceSub, reduceIte]
    refine wk_sub (Sub.new ha) ?_
    rw [show decide ((parts p q (C.map (hr of)) : Int) = (Nat.gcd p q : Nat)) = decide (parts p q (C.map (hr of)) = Nat.gcd p q) by rw [Bool.eq_iff_iff, decide_eq_true_eq, decide_eq_true_eq]; omega]
    exact k
def sp_reading_cost : Sp3 := fun ds M Q => ∃ (of : Of) (C : List Int), ds = [encM of, .tup (C.map .int)] ∧ inR of C ∧ C.length ≤ 1000 ∧ Q (.int (C.map (co of)).sum) M
theorem t_reading_cost : ∀ ds M Q, sp_reading_cost ds M Q → G3.wpSs b_reading_cost (rets Q) (st3 n_reading_cost.length ds) M := by
  rintro ds M Q ⟨of, C, rfl, hC, hl, k⟩
  simp only [n_reading_cost, b_reading_cost, G3.wpSs, G3.wpS, G3.wpE, G3.wpEL, G3.wpO, G3.wpTO, G3.wpT, G3.wpAnd, G3.wpOr, G3.wpAndT, G3.wpOrT, G3.wpI, G3.wpG, G3.wpGs, G3.wipe3, G3.GV.d, G3.st3, G3.bi3, G3.me3, G3.Me.ty, G3.rets, List.replicate, G3.wl, Nat.reduceAdd, Nat.reduceSub, reduceIte]
  refine lc_mp D.int C (fun k => .int (co of k)) (fun _ _ => trivial) (fun a ha M' sb Qe h => ?_) (by rw [sline]; omega) ?_
  · obtain ⟨h0, h1⟩ := hC a ha
    simp only [ix_of h0 h1, G3.wpSs, G3.wpS, G3.wpE, G3.wpEL, G3.wpO, G3.wpTO, G3.wpT, G3.wpAnd, G3.wpOr, G3.wpAndT, G3.wpOrT, G3.wpI, G3.wpG, G3.wpGs, G3.wipe3, G3.GV.d, G3.st3, G3.bi3, G3.me3, G3.Me.ty, G3.rets, List.replicate, G3.wl, Nat.reduceAdd, Nat.reduceSub, reduceIte]
    exact h _ .refl
  · rw [show (C.map fun k => D.int (co of k)) = (C.map (co of)).map .int by rw [List.map_map]; rfl]
    intro a ha
    simp only [seqAt_ref put_same, ints_map, G3.wpSs, G3.wpS, G3.wpE, G3.wpEL, G3.wpO, G3.wpTO, G3.wpT, G3.wpAnd, G3.wpOr, G3.wpAndT, G3.wpOrT, G3.wpI, G3.wpG, G3.wpGs, G3.wipe3, G3.GV.d, G3.st3, G3.bi3, G3.me3, G3.Me.ty, G3.rets, List.replicate, G3.wl, Nat.reduceAdd, Nat.reduceSub, reduceIte]
    exact wk_sub (Sub.new ha) k
/-- the first hour without a chain -/
def gap (p q : Nat) (hs : List Int) : Option Int := ((List.range (Nat.lcm p q)).find? fun h : Nat => !decide (sm p q hs h)).map fun h : Nat => (h : Int)
def sp_first_gap : Sp3 := fun ds M Q => ∃ (p q : Nat) (of : Of), ds = [.int p, .int q, encM of] ∧ 0 < p ∧ 0 < q ∧ p ≤ 100 ∧ q ≤ 100 ∧ of.length ≤ 1000 ∧ Q (optD (gap p q (of.map (·.1)))) M
theorem lcm_small {p q : Nat} (hp : 0 < p) (hq : 0 < q) (p1 : p ≤ 100) (q1 : q ≤ 100) : 0 < Nat.lcm p q ∧ Nat.lcm p q ≤ 10000 := by
  refine ⟨Nat.lcm_pos hp hq, Nat.le_trans (Nat.le_of_dvd (Nat.mul_pos hp hq) (Nat.lcm_dvd (Nat.dvd_mul_right _ _) (Nat.dvd_mul_left _ _))) ?_⟩
  exact Nat.mul_le_mul p1 q1
theorem t_first_gap : ∀ ds M Q, sp_first_gap ds M Q → G3.wpSs (b_first_gap G5.sp_joined_rests) (rets Q) (st3 n_first_gap.length ds) M := by
  rintro ds M Q ⟨p, q, of, rfl, hp, hq, p1, q1, hl, k⟩
  obtain ⟨l0, l1⟩ := lcm_small hp hq p1 q1
  simp only [n_first_gap, r1_first_gap, b_first_gap, encM, G3.wpSs, G3.wpS, G3.wpE, G3.wpEL, G3.wpO, G3.wpTO, G3.wpT, G3.wpAnd, G3.wpOr, G3.wpAndT, G3.wpOrT, G3.wpI, G3.wpG, G3.wpGs, G3.wipe3, G3.GV.d, G3.st3, G3.bi3, G3.me3, G3.Me.ty, G3.rets, List.replicate, G3.wl, Nat.reduceAdd, Nat.reduceSub, reduceIte]
  refine lc_mp _ of (fun o => .int o.1) (fun _ _ => trivial) (fun a ha M' sb Qe h => ?_) (by rw [sline]; omega) ?_
  · simp only [G3.wpSs, G3.wpS, G3.wpE, G3.wpEL, G3.wpO, G3.wpTO, G3.wpT, G3.wpAnd, G3.wpOr, G3.wpAndT, G3.wpOrT, G3.wpI, G3.wpG, G3.wpGs, G3.wipe3, G3.GV.d, G3.st3, G3.bi3, G3.me3, G3.Me.ty, G3.rets, List.replicate, G3.wl, Nat.reduceAdd, Nat.reduceSub, reduceIte]; exact h _ .refl
  rw [show (of.map fun o => D.int o.1) = (of.map (·.1)).map .int by rw [List.map_map]; rfl]
  generalize of.map (·.1) = hs at *
  intro a ha
  refine ⟨p, q, a, hs, rfl, put_same, hp, hq, p1, q1, fun L j => ?_⟩
  have eL := join_eq hp hq j
  intro b hb
  have sb : Sub M (put (put M a (.lst (hs.map .int))) b (.lst (L.map .int))) := (Sub.new ha).trans (Sub.new hb)
  have eb : put (put M a (.lst (hs.map .int))) b (.lst (L.map .int)) b = some (.lst (L.map .int)) := put_same
  generalize put (put M a (.lst (hs.map .int))) b (.lst (L.map .int)) = M1 at *
  simp only [Int.natAbs_natCast, G3.wpSs, G3.wpS, G3.wpE, G3.wpEL, G3.wpO, G3.wpTO, G3.wpT, G3.wpAnd, G3.wpOr, G3.wpAndT, G3.wpOrT, G3.wpI, G3.wpG, G3.wpGs, G3.wipe3, G3.GV.d, G3.st3, G3.bi3, G3.me3, G3.Me.ty, G3.rets, List.replicate, G3.wl, Nat.reduceAdd, Nat.reduceSub, reduceIte]
  have big : ∀ n : Nat, n ≤ 10000 → (-2 ^ 62 ≤ (n : Int)) ∧ (n : Int) < 2 ^ 62 := fun n hn => ⟨by omega, by omega⟩
  refine ⟨by unfold LcmOk; omega, by unfold LcmOk; omega, (big _ l1).1, (big _ l1).2, ?_⟩
  unfold rgD
  rw [Int.toNat_natCast]
  have len := j.len
  refine forW_rest (fun k : Nat => D.int (0 + (k : Int) * 1)) (List.range (p.lcm q)) (fun r τ M' => ∃ s4, τ = [some (.int p), some (.int q), some (.tup (of.map fun m => .tup [.int m.1, .int m.2])), some (.ref b), s4, none] ∧ M' = M1 ∧
    gap p q hs = (r.find? fun h : Nat => !decide (sm p q hs h)).map fun h : Nat => (h : Int)) ⟨_, rfl, rfl, rfl⟩ (fun _ _ _ _ => trivial) (fun h r τ M' hm hP => ?_) (fun τ M' hP => ?_)
  · obtain ⟨s4, rfl, rfl, e⟩ := hP
    rw [show (0 : Int) + (h : Int) * 1 = h by omega]
    obtain ⟨a0, a1⟩ := rA (q := q) hp (h : Int)
    obtain ⟨b0, b1⟩ := rB (p := p) hq (h : Int)
    simp only [G3.wpSs, G3.wpS, G3.wpE, G3.wpEL, G3.wpO, G3.wpTO, G3.wpT, G3.wpAnd, G3.wpOr, G3.wpAndT, G3.wpOrT, G3.wpI, G3.wpG, G3.wpGs, G3.wipe3, G3.GV.d, G3.st3, G3.bi3, G3.me3, G3.Me.ty, G3.rets, List.replicate, G3.wl, Nat.reduceAdd, Nat.reduceSub, reduceIte]
    refine ⟨by omega, ?_⟩
    rw [ix3_intsL eb a0 (by omega)]
    refine ⟨by omega, ?_⟩
    rw [ix3_intsL eb b0 (by omega)]
    rw [List.find?_cons] at e
    subst eL
    by_cases c : sm p q hs h
    · have c' : getZ (LB p q hs) ((h : Int) % p) = getZ (LB p q hs) (p + (h : Int) % q) := c
      rw [decide_eq_true c] at e
      rw [c']
      rw [G3.ne_int, decide_eq_true rfl]
      exact wk.of ⟨_, rfl, rfl, e⟩
    · have c' : ¬ getZ (LB p q hs) ((h : Int) % p) = getZ (LB p q hs) (p + (h : Int) % q) := c
      rw [decide_eq_false c] at e
      rw [G3.ne_int, decide_eq_false c']
      rw [e] at k
      exact wk_sub sb k
  · obtain ⟨s4, rfl, rfl, e⟩ := hP
    rw [e] at k
    exact wk_sub sb k
end K83
set_option Elab.async false
set_option linter.all false
set_option maxRecDepth 100000
set_option maxHeartbeats 4000000
/-! the cheapest reading, walked -/
namespace K83
open G3 L2 G3w G5
variable {p q : Nat}
def prs (of : Of) : List (Int × Int) := (List.range of.length).map fun j : Nat => (co of j, (j : Int))
def Best (p q : Nat) (of : Of) (T : List Int) : Prop := ∃ ps : List (Int × Int), ps.Perm (prs of) ∧ ps.Pairwise lexLe ∧ T.Perm (krs p q (hr of) (ps.map (·.2))) ∧ T.Pairwise (· ≤ ·)
theorem lex_anti {a b : Int × Int} (h : lexLe a b) (h' : lexLe b a) : a = b := by
  unfold lexLe at h h'
  exact Prod.ext (by omega) (by omega)
theorem sorted_uniq {α : Type} {le : α → α → Prop} (anti : ∀ a b, le a b → le b a → a = b) : ∀ {l m : List α}, l.Perm m → l.Pairwise le → m.Pairwise le → l = m
  | [], m, h, _, _ => (List.Perm.nil_eq h)
  | a :: l, [], h, _, _ => absurd h.length_eq (by simp)
  | a :: l, b :: m, h, h1, h2 => by
    obtain ⟨p1, p2⟩ := List.pairwise_cons.mp h1
    obtain ⟨q1, q2⟩ := List.pairwise_cons.mp h2
    have e : a = b := by
      rcases List.mem_cons.mp (h.mem_iff.mp List.mem_cons_self) with z | z
      · exact z
      · rcases List.mem_cons.mp (h.mem_iff.mpr List.mem_cons_self) with w | w
        · exact w.symm
        · exact anti a b (p1 b w) (q1 a z)
    subst e
    rw [sorted_uniq anti (List.Perm.cons_inv h) p2 q2]
theorem best_uniq {of : Of} {T T' : List Int} (b : Best p q of T) (b' : Best p q of T') : T = T' := by
  obtain ⟨ps, a1, a2, a3, a4⟩ := b
  obtain ⟨ps', c1, c2, c3, c4⟩ := b'
  have e := sorted_uniq (fun _ _ => lex_anti) (a1.trans c1.symm) a2 c2
  subst e
  exact sorted_uniq (fun _ _ h h' => Int.le_antisymm h h') (a3.trans c3.symm) a4 c4
theorem prs_ord {of : Of} {ps : List (Int × Int)} (h : ps.Perm (prs of)) : (ps.map (·.2)).Perm ((List.range of.length).map fun j : Nat => (j : Int)) := by
  have := h.map (·.2)
  unfold prs at this
  rwa [List.map_map] at this
theorem ord_mem {of : Of} {ps : List (Int × Int)} (h : ps.Perm (prs of)) (k : Int) : k ∈ ps.map (·.2) ↔ 0 ≤ k ∧ k < of.length := by
  rw [(prs_ord h).mem_iff, List.mem_map]
  constructor
  · rintro ⟨j, hj, rfl⟩
    have := List.mem_range.mp hj
    omega
  · intro hk
    exact ⟨k.toNat, List.mem_range.mpr (by omega), by omega⟩
theorem hr_mem {of : Of} (h : Int) : h ∈ of.map (·.1) ↔ ∃ k : Int, (0 ≤ k ∧ k < of.length) ∧ hr of k = h := by
  rw [List.mem_map]
  constructor
  · rintro ⟨o, ho, rfl⟩
    obtain ⟨i, hi, e⟩ := List.getElem_of_mem ho
    refine ⟨i, by omega, ?_⟩
    unfold hr
    rw [List.getD_eq_getElem?_getD, Int.toNat_natCast, List.getElem?_eq_getElem hi, e]; rfl
  · rintro ⟨k, ⟨h0, h1⟩, rfl⟩
    have hk : k.toNat < of.length := by omega
    refine ⟨of[k.toNat], List.getElem_mem hk, ?_⟩
    unfold hr
    rw [List.getD_eq_getElem?_getD, List.getElem?_eq_getElem hk]; rfl
theorem ord_parts (hp : 0 < p) (hq : 0 < q) {of : Of} {ps : List (Int × Int)} (h : ps.Perm (prs of)) : parts p q ((krs p q (hr of) (ps.map (·.2))).map (hr of)) = parts p q (of.map (·.1)) := by
  have e : parts p q ((krs p q (hr of) (ps.map (·.2))).map (hr of)) = parts p q ((ps.map (·.2)).map (hr of)) := by unfold parts; rw [krs_LB]
  rw [e]
  refine parts_same hp hq fun x => ?_
  rw [hr_mem, List.mem_map]
  constructor
  · rintro ⟨k, hk, rfl⟩; exact ⟨k, (ord_mem h k).mp hk, rfl⟩
  · rintro ⟨k, hk, rfl⟩; exact ⟨k, (ord_mem h k).mpr hk, rfl⟩
def bestD (p q : Nat) (of : Of) (T : List Int) : D := if parts p q (of.map (·.1)) = Nat.gcd p q then .tup (T.map .int) else .non
def sp_cheapest_reading : Sp3 := fun ds M Q => ∃ (p q : Nat) (of : Of), ds = [.int p, .int q, encM of] ∧ 0 < p ∧ 0 < q ∧ p ≤ 100 ∧ q ≤ 100 ∧ of.length ≤ 1000 ∧ ∀ T, Best p q of T → Q (bestD p q of T) M
theorem prs_zip {of : Of} : (of.zipIdx.map fun x : (Int × Int) × Nat => (x.1.2, (x.2 : Int))) = prs of := by
  unfold prs
  apply List.ext_getElem?
  intro i
  rw [List.getElem?_map, List.getElem?_map, List.getElem?_zipIdx]
  by_cases h : i < of.length
  · rw [List.getElem?_eq_getElem h, List.getElem?_range h]
    unfold co
    simp [List.getD_eq_getElem?_getD, List.getElem?_eq_getElem h]
  · rw [List.getElem?_eq_none (by omega), List.getElem?_eq_none (by rw [List.length_range]; omega)]; rfl
theorem t_cheapest_reading : ∀ ds M Q, sp_cheapest_reading ds M Q → G3.wpSs (b_cheapest_reading sp_count_parts) (rets Q) (st3 n_cheapest_reading.length ds) M := by
  rintro ds M Q ⟨p, q, of, rfl, hp, hq, p1, q1, hl, k⟩
  simp only [n_cheapest_reading, r1_cheapest_reading, b_cheapest_reading, encM, enum3_tup, enumD_map, G3.wpSs, G3.wpS, G3.wpE, G3.wpEL, G3.wpO, G3.wpTO, G3.wpT, G3.wpAnd, G3.wpOr, G3.wpAndT, G3.wpOrT, G3.wpI, G3.wpG, G3.wpGs, G3.wipe3, G3.GV.d, G3.st3, G3.bi3, G3.me3, G3.Me.ty, G3.rets, List.replicate, G3.wl, Nat.reduceAdd, Nat.reduceSub, reduceIte]
  intro t ht
  refine lc_mp _ of.zipIdx (fun x => kpD (x.1.2, x.2)) (fun _ _ => trivial) (fun a ha M' sb Qe h => ?_) (by rw [sline, List.length_zipIdx]; omega) ?_
  · simp only [G3.wpSs, G3.wpS, G3.wpE, G3.wpEL, G3.wpO, G3.wpTO, G3.wpT, G3.wpAnd, G3.wpOr, G3.wpAndT, G3.wpOrT, G3.wpI, G3.wpG, G3.wpGs, G3.wipe3, G3.GV.d, G3.st3, G3.bi3, G3.me3, G3.Me.ty, G3.rets, List.replicate, G3.wl, Nat.reduceAdd, Nat.reduceSub, reduceIte]; exact h _ .refl
  rw [show (of.zipIdx.map fun x => kpD (x.1.2, (x.2 : Int))) = (prs of).map kpD by rw [← prs_zip, List.map_map]; rfl]
  intro b hb
  simp only [listAt_ref put_same, prs_map, G3.wpSs, G3.wpS, G3.wpE, G3.wpEL, G3.wpO, G3.wpTO, G3.wpT, G3.wpAnd, G3.wpOr, G3.wpAndT, G3.wpOrT, G3.wpI, G3.wpG, G3.wpGs, G3.wipe3, G3.GV.d, G3.st3, G3.bi3, G3.me3, G3.Me.ty, G3.rets, List.replicate, G3.wl, Nat.reduceAdd, Nat.reduceSub, reduceIte]
  intro ps hps hs c hc
  have et : put (put (put M t (.lst [])) b (.lst ((prs of).map kpD))) c (.lst (ps.map kpD)) t = some (.lst []) := put_keep (put_keep put_same hb) hc
  have ec : put (put (put M t (.lst [])) b (.lst ((prs of).map kpD))) c (.lst (ps.map kpD)) c = some (.lst (ps.map kpD)) := put_same
  have sb : Sub M (put (put (put M t (.lst [])) b (.lst ((prs of).map kpD))) c (.lst (ps.map kpD))) := ((Sub.new ht).trans (Sub.new hb)).trans (Sub.new hc)
  have htc : t ≠ c := fun z => by
    subst z; rw [put_ne (fun z => by subst z; rw [put_same] at hb; cases hb), put_same] at hc; cases hc
  generalize put (put (put M t (.lst [])) b (.lst ((prs of).map kpD))) c (.lst (ps.map kpD)) = M1 at *
  rw [seqI_ref ec]
  have pl : ps.length = of.length := by rw [hps.length_eq]; unfold prs; rw [List.length_map, List.length_range]
  refine forW_rest kpD ps (fun r τ M' => ∃ (T : List Int) (s5 s6 s7 : Option D), τ = [some (.int p), some (.int q), some (.tup (of.map fun m => .tup [.int m.1, .int m.2])), some (.ref t), some (.int (parts p q (T.map (hr of)) : Nat)), s5, s6, s7, none, none] ∧
    Sub M M' ∧ M' t = some (.lst (T.map .int)) ∧ M' c = some (.lst (ps.map kpD)) ∧ (r.map (·.2)).foldl (kr p q (hr of)) T = krs p q (hr of) (ps.map (·.2)) ∧ inR of T ∧ T.length + r.length ≤ ps.length)
    ⟨[], none, none, none, by rw [List.map_nil, parts_nil]; simp, sb, et, ec, rfl, fun k hk => by simp at hk, by simp⟩ (fun r τ M' hP => ?_) (fun a r τ M' ha hP => ?_) (fun τ M' hP => ?_)
  · obtain ⟨T, s5, s6, s7, rfl, sb', et', ec', _⟩ := hP; exact ec'
  · obtain ⟨T, s5, s6, s7, rfl, sb', et', ec', e, hT, hlen⟩ := hP
    have hk : 0 ≤ a.2 ∧ a.2 < of.length := (ord_mem hps a.2).mp (List.mem_map_of_mem ha)
    rw [List.length_cons] at hlen
    simp only [kpD, G3.wpSs, G3.wpS, G3.wpE, G3.wpEL, G3.wpO, G3.wpTO, G3.wpT, G3.wpAnd, G3.wpOr, G3.wpAndT, G3.wpOrT, G3.wpI, G3.wpG, G3.wpGs, G3.wipe3, G3.GV.d, G3.st3, G3.bi3, G3.me3, G3.Me.ty, G3.rets, List.replicate, G3.wl, Nat.reduceAdd, Nat.reduceSub, reduceIte]
    intro u hu
    have et2 := put_keep (o' := .lst [.int a.2]) et' hu
    simp only [add_ref et2 put_same, G3.wpSs, G3.wpS, G3.wpE, G3.wpEL, G3.wpO, G3.wpTO, G3.wpT, G3.wpAnd, G3.wpOr, G3.wpAndT, G3.wpOrT, G3.wpI, G3.wpG, G3.wpGs, G3.wipe3, G3.GV.d, G3.st3, G3.bi3, G3.me3, G3.Me.ty, G3.rets, List.replicate, G3.wl, Nat.reduceAdd, Nat.reduceSub, reduceIte]
    refine ⟨by rw [sline]; omega, fun v hv => ?_⟩
    simp only [seqI_ref put_same, G3.wpSs, G3.wpS, G3.wpE, G3.wpEL, G3.wpO, G3.wpTO, G3.wpT, G3.wpAnd, G3.wpOr, G3.wpAndT, G3.wpOrT, G3.wpI, G3.wpG, G3.wpGs, G3.wipe3, G3.GV.d, G3.st3, G3.bi3, G3.me3, G3.Me.ty, G3.rets, List.replicate, G3.wl, Nat.reduceAdd, Nat.reduceSub, reduceIte]
    have ev : put (put M' u (.lst [.int a.2])) v (.lst (T.map D.int ++ [.int a.2])) v = some (.lst (T.map D.int ++ [.int a.2])) := put_same
    have et3 : put (put M' u (.lst [.int a.2])) v (.lst (T.map D.int ++ [.int a.2])) t = some (.lst (T.map .int)) := put_keep et2 hv
    have ec3 : put (put M' u (.lst [.int a.2])) v (.lst (T.map D.int ++ [.int a.2])) c = some (.lst (ps.map kpD)) := put_keep (put_keep ec' hu) hv
    have sb3 : Sub M' (put (put M' u (.lst [.int a.2])) v (.lst (T.map D.int ++ [.int a.2]))) := (Sub.new hu).trans (Sub.new hv)
    generalize put (put M' u (.lst [.int a.2])) v (.lst (T.map D.int ++ [.int a.2])) = M2 at *
    rw [show T.map D.int ++ [D.int a.2] = (T ++ [a.2]).map .int by rw [List.map_append]; rfl] at ev ⊢
    have hT2 : inR of (T ++ [a.2]) := fun x hx => by
      rcases List.mem_append.mp hx with z | z
      · exact hT x z
      · rw [List.mem_singleton] at z; subst z; exact hk
    refine lc_mp D.int (T ++ [a.2]) (fun x => .int (hr of x)) (fun M' sb => sb _ _ ev) (fun x hx M' sb Qe h => ?_) (by rw [sline, List.length_append, List.length_singleton]; omega) ?_
    · obtain ⟨h0, h1⟩ := hT2 x hx
      have := ix_of (M := M') (Q := fun d M1 => ix3 d (.int 0) M1 Qe) h0 h1
      unfold encM at this
      simp only [this, G3.wpSs, G3.wpS, G3.wpE, G3.wpEL, G3.wpO, G3.wpTO, G3.wpT, G3.wpAnd, G3.wpOr, G3.wpAndT, G3.wpOrT, G3.wpI, G3.wpG, G3.wpGs, G3.wipe3, G3.GV.d, G3.st3, G3.bi3, G3.me3, G3.Me.ty, G3.rets, List.replicate, G3.wl, Nat.reduceAdd, Nat.reduceSub, reduceIte]
      exact h _ .refl
    rw [show ((T ++ [a.2]).map fun x => D.int (hr of x)) = ((T ++ [a.2]).map (hr of)).map .int by rw [List.map_map]; rfl]
    intro w hw
    refine ⟨p, q, w, _, rfl, put_same, hp, hq, p1, q1, ?_⟩
    have et4 := put_keep (o' := .lst (((T ++ [a.2]).map (hr of)).map D.int)) et3 hw
    have ec4 := put_keep (o' := .lst (((T ++ [a.2]).map (hr of)).map D.int)) ec3 hw
    have sb4 := sb3.trans (Sub.new (o := .lst (((T ++ [a.2]).map (hr of)).map D.int)) hw)
    generalize put M2 w (.lst (((T ++ [a.2]).map (hr of)).map D.int)) = M4 at *
    have pa := parts_add hp hq (hs := T.map (hr of)) (h := hr of a.2)
    rw [show T.map (hr of) ++ [hr of a.2] = (T ++ [a.2]).map (hr of) by rw [List.map_append]; rfl] at pa
    rw [List.map_cons, List.foldl_cons] at e
    simp only [G3.lt_int, isB3_bl]
    by_cases c : sm p q (T.map (hr of)) (hr of a.2)
    · rw [if_pos c] at pa
      rw [if_neg (fun z => by have := of_decide_eq_true z; omega)]
      unfold kr at e
      rw [if_pos c] at e
      exact wk.of ⟨T, _, _, _, rfl, sb'.trans sb4, et4, ec4, e, hT, by omega⟩
    · rw [if_neg c] at pa
      rw [if_pos (decide_eq_true (by omega))]
      unfold kr at e
      rw [if_neg c] at e
      simp only [isTyM_ref et4, refL_ref et4, G3.wpSs, G3.wpS, G3.wpE, G3.wpEL, G3.wpO, G3.wpTO, G3.wpT, G3.wpAnd, G3.wpOr, G3.wpAndT, G3.wpOrT, G3.wpI, G3.wpG, G3.wpGs, G3.wipe3, G3.GV.d, G3.st3, G3.bi3, G3.me3, G3.Me.ty, G3.rets, List.replicate, G3.wl, Nat.reduceAdd, Nat.reduceSub, reduceIte]
      refine ⟨by rw [sline]; omega, wk.of ⟨T ++ [a.2], _, _, _, rfl, (sb'.trans sb4).put_free ht, ?_, ?_, e, hT2, by rw [List.length_append, List.length_singleton]; omega⟩⟩
      · rw [put_same, List.map_append]; rfl
      · rw [put_ne htc.symm]; exact ec4
  · obtain ⟨T, s5, s6, s7, rfl, sb', et', ec', e, hT, hlen⟩ := hP
    rw [List.map_nil, List.foldl_nil] at e
    subst e
    have hpp := ord_parts hp hq hps
    have fin := fun T hT hs' => k T ⟨ps, hps, hs, hT, hs'⟩
    unfold bestD at fin
    simp only [listAt_ref et', ints_map, Int.natAbs_natCast, G3.wpSs, G3.wpS, G3.wpE, G3.wpEL, G3.wpO, G3.wpTO, G3.wpT, G3.wpAnd, G3.wpOr, G3.wpAndT, G3.wpOrT, G3.wpI, G3.wpG, G3.wpGs, G3.wipe3, G3.GV.d, G3.st3, G3.bi3, G3.me3, G3.Me.ty, G3.rets, List.replicate, G3.wl, Nat.reduceAdd, Nat.reduceSub, reduceIte]
    rw [hpp]
    by_cases c : parts p q (of.map (·.1)) = Nat.gcd p q
    · rw [if_pos (by omega)]
      intro T hT hs' d hd
      simp only [seqAt_ref put_same, G3.wpSs, G3.wpS, G3.wpE, G3.wpEL, G3.wpO, G3.wpTO, G3.wpT, G3.wpAnd, G3.wpOr, G3.wpAndT, G3.wpOrT, G3.wpI, G3.wpG, G3.wpGs, G3.wipe3, G3.GV.d, G3.st3, G3.bi3, G3.me3, G3.Me.ty, G3.rets, List.replicate, G3.wl, Nat.reduceAdd, Nat.reduceSub, reduceIte]
      have := fin T hT hs'
      rw [if_pos c] at this
      exact wk_sub (sb'.trans (Sub.new hd)) this
    · rw [if_neg (by omega)]
      obtain ⟨T', h1, h2⟩ : ∃ T' : List Int, T'.Perm (krs p q (hr of) (ps.map (·.2))) ∧ T'.Pairwise (· ≤ ·) := by
        refine ⟨(krs p q (hr of) (ps.map (·.2))).mergeSort (fun a b => decide (a ≤ b)), List.mergeSort_perm _ _, ?_⟩
        have := List.pairwise_mergeSort (le := fun a b : Int => decide (a ≤ b)) (fun a b c h1 h2 => by simp at *; omega) (fun a b => by simp; omega) (krs p q (hr of) (ps.map (·.2)))
        exact this.imp fun h => of_decide_eq_true h
      have := fin T' h1 h2
      rw [if_neg c] at this
      exact wk_sub sb' this
end K83
set_option Elab.async false
set_option linter.all false
set_option maxRecDepth 100000
set_option maxHeartbeats 4000000
/-! chains of marks for an hour -/
namespace K83
open G3 L2 G3w G5
variable {p q : Nat}
abbrev Sta := Int × Int
/-- no state left to walk from: no chain -/
theorem bfs_none (hp : 0 < p) (hq : 0 < q) {mk : Of} {hour : Int} {R : Sta → Prop} (rng : ∀ i b, R (i, b) → 0 ≤ i ∧ i < mk.length) (ini : ∀ i : Int, 0 ≤ i → i < mk.length → hr mk i % p = hour % p → R (i, 1))
    (i1 : ∀ i, R (i, 1) → hr mk i % p = hour % p ∨ ∃ k, R (k, 0) ∧ hr mk k % p = hr mk i % p) (i0 : ∀ i, R (i, 0) → ∃ k, R (k, 1) ∧ hr mk k % q = hr mk i % q)
    (c1 : ∀ i, R (i, 1) → hr mk i % q ≠ hour % q ∧ ∀ j : Int, 0 ≤ j → j < mk.length → j ≠ i → hr mk j % q = hr mk i % q → R (j, 0)) (c0 : ∀ i, R (i, 0) → ∀ j : Int, 0 ≤ j → j < mk.length → j ≠ i → hr mk j % p = hr mk i % p → R (j, 1)) :
    ¬ sm p q (mk.map (·.1)) hour := by
  intro s
  have J := LB_join hp hq (mk.map (·.1))
  unfold sm at s
  generalize LB p q (mk.map (·.1)) = L at *
  have key := J.con (fun x => (x < p ∧ (x = hour % p ∨ ∃ i, R (i, 0) ∧ hr mk i % p = x)) ∨ ((p : Int) ≤ x ∧ ∃ i, R (i, 1) ∧ p + hr mk i % q = x)) ?_
  · obtain ⟨a0, a1⟩ := rA (q := q) hp hour
    obtain ⟨b0, b1⟩ := rB (p := p) hq hour
    have s1 := (key _ a0 a1).mp (.inl ⟨Int.emod_lt_of_pos _ (by omega), .inl rfl⟩)
    rw [s] at s1
    rcases (key _ b0 b1).mpr s1 with ⟨z, _⟩ | ⟨_, i, ri, e⟩
    · have := Int.emod_nonneg hour (show (q : Int) ≠ 0 by omega); omega
    · exact (c1 i ri).1 (by omega)
  · intro h hh
    obtain ⟨j, ⟨j0, j1⟩, rfl⟩ := (hr_mem h).mp hh
    have pa := Int.emod_lt_of_pos (hr mk j) (show (0 : Int) < p by omega)
    have qa := Int.emod_nonneg (hr mk j) (show (q : Int) ≠ 0 by omega)
    constructor
    · rintro (⟨_, e | ⟨i, ri, e⟩⟩ | ⟨z, _⟩)
      · exact .inr ⟨by omega, j, ini j j0 j1 e, rfl⟩
      · by_cases c : j = i
        · subst c
          obtain ⟨k, rk, ek⟩ := i0 j ri
          exact .inr ⟨by omega, k, rk, by rw [ek]⟩
        · exact .inr ⟨by omega, j, c0 i ri j j0 j1 c e.symm, rfl⟩
      · omega
    · rintro (⟨z, _⟩ | ⟨_, i, ri, e⟩)
      · omega
      · by_cases c : j = i
        · subst c
          rcases i1 j ri with e | ⟨k, rk, ek⟩
          · exact .inl ⟨pa, .inl e⟩
          · exact .inl ⟨pa, .inr ⟨k, rk, ek⟩⟩
        · exact .inl ⟨pa, .inr ⟨j, (c1 i ri).2 j j0 j1 c (by omega), rfl⟩⟩
theorem bfs_some (hp : 0 < p) (hq : 0 < q) {mk : Of} {hour i : Int} (h0 : 0 ≤ i) (h1 : i < mk.length) (c : getZ (LB p q (mk.map (·.1))) (hr mk i % p) = getZ (LB p q (mk.map (·.1))) (hour % p)) (e : hr mk i % q = hour % q) : sm p q (mk.map (·.1)) hour := by
  have J := LB_join hp hq (mk.map (·.1))
  unfold sm
  rw [← c, J.eq _ ((hr_mem _).mpr ⟨i, ⟨h0, h1⟩, rfl⟩), e]
/-! ### linked marks -/
theorem fm_if {α : Type} {P : α → Bool} {f : α → Int} : ∀ l : List α, (l.filterMap fun x => if P x = true then some (D.int (f x)) else none) = ((l.filter P).map f).map .int
  | [] => rfl
  | x :: l => by
    rw [List.filterMap_cons, List.filter_cons]
    by_cases h : P x = true
    · rw [if_pos h, if_pos h, List.map_cons, List.map_cons]; simp only []; rw [fm_if l]
    · rw [if_neg h, if_neg h]; simp only []; rw [fm_if l]
theorem mem_zip {mk : Of} {P : (Int × Int) × Nat → Bool} (j : Int) : j ∈ (mk.zipIdx.filter P).map (fun x : (Int × Int) × Nat => (x.2 : Int)) ↔ (0 ≤ j ∧ j < mk.length) ∧ P ((hr mk j, co mk j), j.toNat) = true := by
  rw [List.mem_map]
  constructor
  · rintro ⟨⟨x, i⟩, hx, rfl⟩
    obtain ⟨h1, h2⟩ := List.mem_filter.mp hx
    have e := List.mk_mem_zipIdx_iff_getElem?.mp h1
    obtain ⟨hi, e⟩ := List.getElem?_eq_some_iff.mp e
    refine ⟨⟨by omega, by omega⟩, ?_⟩
    have : (hr mk (i : Nat), co mk (i : Nat)) = x := by
      unfold hr co
      rw [List.getD_eq_getElem?_getD, Int.toNat_natCast, List.getElem?_eq_getElem hi, e]; rfl
    rw [this, Int.toNat_natCast]; exact h2
  · rintro ⟨⟨h0, h1⟩, h2⟩
    refine ⟨((hr mk j, co mk j), j.toNat), List.mem_filter.mpr ⟨List.mk_mem_zipIdx_iff_getElem?.mpr ?_, h2⟩, by simp; omega⟩
    unfold hr co
    rw [List.getD_eq_getElem?_getD, List.getElem?_eq_getElem (by omega)]; rfl
def sp_linked_marks : Sp3 := fun ds M Q => ∃ (n : Nat) (mk : Of) (i : Int), ds = [.int n, encM mk, .int i] ∧ 0 < n ∧ 0 ≤ i ∧ i < mk.length ∧ mk.length ≤ 1000 ∧ ∀ ls : List Int, (∀ j, j ∈ ls ↔ (0 ≤ j ∧ j < mk.length) ∧ j ≠ i ∧ hr mk j % n = hr mk i % n) → newL (ls.map .int) M Q
theorem t_linked_marks : ∀ ds M Q, sp_linked_marks ds M Q → G3.wpSs b_linked_marks (rets Q) (st3 n_linked_marks.length ds) M := by
  rintro ds M Q ⟨n, mk, i, rfl, hn, h0, h1, hl, k⟩
  have e0 := fun (Q : K3) => ix_of (of := mk) (M := M) (Q := Q) h0 h1
  unfold encM at e0
  simp only [n_linked_marks, b_linked_marks, encM, e0, enum3_tup, enumD_map, G3.wpSs, G3.wpS, G3.wpE, G3.wpEL, G3.wpO, G3.wpTO, G3.wpT, G3.wpAnd, G3.wpOr, G3.wpAndT, G3.wpOrT, G3.wpI, G3.wpG, G3.wpGs, G3.wipe3, G3.GV.d, G3.st3, G3.bi3, G3.me3, G3.Me.ty, G3.rets, List.replicate, G3.wl, Nat.reduceAdd, Nat.reduceSub, reduceIte]
  refine ⟨by omega, ?_⟩
  refine lc_fm _ mk.zipIdx (fun x => if (decide ((x.2 : Int) ≠ i) && decide (x.1.1 % n = hr mk i % n)) = true then some (.int (x.2 : Int)) else none) (fun _ _ => trivial) (fun a ha M' sb Qe Qn h h' => ?_) (by rw [sline, List.length_zipIdx]; omega) ?_
  · simp only [G3.wpSs, G3.wpS, G3.wpE, G3.wpEL, G3.wpO, G3.wpTO, G3.wpT, G3.wpAnd, G3.wpOr, G3.wpAndT, G3.wpOrT, G3.wpI, G3.wpG, G3.wpGs, G3.wipe3, G3.GV.d, G3.st3, G3.bi3, G3.me3, G3.Me.ty, G3.rets, List.replicate, G3.wl, Nat.reduceAdd, Nat.reduceSub, reduceIte]
    by_cases c1 : (a.2 : Int) = i
    · rw [decide_eq_true c1]
      simp only [G3.wpSs, G3.wpS, G3.wpE, G3.wpEL, G3.wpO, G3.wpTO, G3.wpT, G3.wpAnd, G3.wpOr, G3.wpAndT, G3.wpOrT, G3.wpI, G3.wpG, G3.wpGs, G3.wipe3, G3.GV.d, G3.st3, G3.bi3, G3.me3, G3.Me.ty, G3.rets, List.replicate, G3.wl, Nat.reduceAdd, Nat.reduceSub, reduceIte]
      exact h' (by simp [c1]) _ .refl
    · rw [decide_eq_false c1]
      simp only [G3.wpSs, G3.wpS, G3.wpE, G3.wpEL, G3.wpO, G3.wpTO, G3.wpT, G3.wpAnd, G3.wpOr, G3.wpAndT, G3.wpOrT, G3.wpI, G3.wpG, G3.wpGs, G3.wipe3, G3.GV.d, G3.st3, G3.bi3, G3.me3, G3.Me.ty, G3.rets, List.replicate, G3.wl, Nat.reduceAdd, Nat.reduceSub, reduceIte]
      refine ⟨by omega, ?_⟩
      by_cases c2 : a.1.1 % n = hr mk i % n
      · rw [if_pos c2]
        exact h _ (by simp [c1, c2]) _ .refl
      · rw [if_neg c2]
        exact h' (by simp [c2]) _ .refl
  · rw [fm_if]
    have := k ((mk.zipIdx.filter fun x => (decide ((x.2 : Int) ≠ i) && decide (x.1.1 % n = hr mk i % n))).map fun x => (x.2 : Int)) fun j => by
      rw [mem_zip]
      constructor
      · rintro ⟨⟨a, b⟩, c⟩
        simp only [Bool.and_eq_true, decide_eq_true_eq] at c
        exact ⟨⟨a, b⟩, by omega, c.2⟩
      · rintro ⟨⟨a, b⟩, c, d⟩
        refine ⟨⟨a, b⟩, ?_⟩
        simp only [Bool.and_eq_true, decide_eq_true_eq]
        exact ⟨by omega, d⟩
    exact newL_wk this
end K83
set_option Elab.async false
set_option linter.all false
set_option maxRecDepth 100000
set_option maxHeartbeats 4000000
/-! height_chain, walked -/
namespace K83
open G3 L2 G3w G5
variable {p q : Nat}
abbrev Ent := Sta × List Int
def ky (s : Sta) : List L2.Key := [.inl s.1, .inl s.2]
def enT (e : Ent) : List L2.Key × D := (ky e.1, .tup (e.2.map .int))
def enQ (e : Ent) : D := kpD e.1
theorem ky_inj {a b : Sta} : ky a = ky b ↔ a = b := by
  unfold ky
  constructor
  · intro h
    simp only [List.cons.injEq, Sum.inl.injEq, and_true] at h
    exact Prod.ext h.1 h.2
  · intro h; rw [h]
theorem keys_kp {s : Sta} : keysD [.int s.1, .int s.2] = some (ky s) := rfl
theorem getT_en {s : Sta} : ∀ E : List Ent, getT (E.map enT) (ky s) = (E.find? fun e => decide (e.1 = s)).map fun e => .tup (e.2.map .int)
  | [] => rfl
  | e :: E => by
    have ih := getT_en (s := s) E
    unfold getT at ih ⊢
    rw [List.map_cons, List.find?_cons, List.find?_cons]
    by_cases h : e.1 = s
    · have h' : (enT e).1 = ky s := ky_inj.mpr h
      rw [decide_eq_true h', decide_eq_true h]; rfl
    · have h' : ¬ (enT e).1 = ky s := fun z => h (ky_inj.mp z)
      rw [decide_eq_false h', decide_eq_false h]; exact ih
theorem find_mem {s : Sta} {E : List Ent} : (E.find? fun e => decide (e.1 = s)).isSome = decide (s ∈ E.map (·.1)) := by
  rw [Bool.eq_iff_iff, List.find?_isSome, decide_eq_true_eq, List.mem_map]
  constructor
  · rintro ⟨e, he, h⟩; exact ⟨e, he, of_decide_eq_true h⟩
  · rintro ⟨e, he, h⟩; exact ⟨e, he, decide_eq_true h⟩
theorem putT_new {s : Sta} {E : List Ent} {c : List Int} (h : s ∉ E.map (·.1)) : putT (E.map enT) (ky s) (.tup (c.map .int)) = (E ++ [(s, c)]).map enT := by
  unfold putT
  have e : ((E.map enT).any fun kv => decide (kv.1 = ky s)) = false := by
    rw [List.any_map, List.any_eq_false]
    intro e he z
    exact h (List.mem_map.mpr ⟨e, he, ky_inj.mp (of_decide_eq_true z)⟩)
  rw [e, if_neg Bool.false_ne_true, List.map_append]; rfl
theorem nodup_bound {n : Nat} {l : List Nat} (h : l.Nodup) (hb : ∀ x ∈ l, x < n) : l.length ≤ n := by
  have : l.Perm ((List.range n).filter fun x => decide (x ∈ l)) := nodup_perm h (List.nodup_range.sublist List.filter_sublist) fun x => by
    rw [List.mem_filter, List.mem_range, decide_eq_true_eq]
    exact ⟨fun z => ⟨hb x z, z⟩, fun z => z.2⟩
  rw [this.length_eq]
  exact Nat.le_trans (List.length_filter_le _ _) (by rw [List.length_range]; exact Nat.le_refl _)
theorem sta_bound {n : Nat} {l : List Sta} (h : l.Nodup) (hb : ∀ s ∈ l, 0 ≤ s.1 ∧ s.1 < n ∧ (s.2 = 0 ∨ s.2 = 1)) : l.length ≤ 2 * n := by
  have e : (l.map fun s : Sta => (2 * s.1 + s.2).toNat).length = l.length := List.length_map _
  rw [← e]
  refine nodup_bound ?_ fun x hx => ?_
  · unfold List.Nodup at h ⊢
    rw [List.pairwise_map]
    refine List.Pairwise.imp_of_mem ?_ h
    intro a b ha hb' hn z
    obtain ⟨a0, a1, a2⟩ := hb a ha
    obtain ⟨b0, b1, b2⟩ := hb b hb'
    exact hn (Prod.ext (by omega) (by omega))
  · obtain ⟨s, hs, rfl⟩ := List.mem_map.mp hx
    obtain ⟨a0, a1, a2⟩ := hb s hs
    omega
/-- what stands in the queue, states walked from up to n -/
structure Bf (p q : Nat) (mk : Of) (hour : Int) (E : List Ent) (n : Nat) : Prop where
  nd : (E.map (·.1)).Nodup
  le : n ≤ E.length
  rng : ∀ s : Sta, s ∈ E.map (·.1) → 0 ≤ s.1 ∧ s.1 < mk.length ∧ (s.2 = 0 ∨ s.2 = 1)
  con : ∀ s : Sta, s ∈ E.map (·.1) → getZ (LB p q (mk.map (·.1))) (hr mk s.1 % p) = getZ (LB p q (mk.map (·.1))) (hour % p)
  ini : ∀ i : Int, 0 ≤ i → i < mk.length → hr mk i % p = hour % p → (i, (1 : Int)) ∈ E.map (·.1)
  i1 : ∀ i, (i, (1 : Int)) ∈ E.map (·.1) → hr mk i % p = hour % p ∨ ∃ k, (k, (0 : Int)) ∈ E.map (·.1) ∧ hr mk k % p = hr mk i % p
  i0 : ∀ i, (i, (0 : Int)) ∈ E.map (·.1) → ∃ k, (k, (1 : Int)) ∈ E.map (·.1) ∧ hr mk k % q = hr mk i % q
  done : ∀ t s, t < n → (E.map (·.1))[t]? = some s → (s.2 = 1 → hr mk s.1 % q ≠ hour % q ∧ ∀ j : Int, 0 ≤ j → j < mk.length → j ≠ s.1 → hr mk j % q = hr mk s.1 % q → (j, (0 : Int)) ∈ E.map (·.1)) ∧
    (s.2 = 0 → ∀ j : Int, 0 ≤ j → j < mk.length → j ≠ s.1 → hr mk j % p = hr mk s.1 % p → (j, (1 : Int)) ∈ E.map (·.1))
  len : ∀ e ∈ E, e.2.length ≤ E.length
variable {mk : Of} {hour : Int}
theorem Bf.bound {E : List Ent} {n : Nat} (b : Bf p q mk hour E n) : E.length ≤ 2 * mk.length := by
  have := sta_bound b.nd b.rng
  rwa [List.length_map] at this
theorem Bf.fin (hp : 0 < p) (hq : 0 < q) {E : List Ent} {n : Nat} (b : Bf p q mk hour E n) (h : E.length ≤ n) : ¬ sm p q (mk.map (·.1)) hour := by
  have at_ : ∀ s, s ∈ E.map (·.1) → ∃ t, t < n ∧ (E.map (·.1))[t]? = some s := fun s hs => by
    obtain ⟨t, ht, e⟩ := List.getElem_of_mem hs
    rw [List.length_map] at ht
    exact ⟨t, by omega, by rw [List.getElem?_eq_getElem (by rw [List.length_map]; exact ht), e]⟩
  refine bfs_none hp hq (R := fun s => s ∈ E.map (·.1)) (fun i c h => ⟨(b.rng _ h).1, (b.rng _ h).2.1⟩) b.ini b.i1 b.i0 (fun i hi => ?_) (fun i hi => ?_)
  · obtain ⟨t, ht, e⟩ := at_ _ hi
    exact (b.done t _ ht e).1 rfl
  · obtain ⟨t, ht, e⟩ := at_ _ hi
    exact (b.done t _ ht e).2 rfl
/-- a state walked to -/
theorem Bf.add (hp : 0 < p) (hq : 0 < q) {E : List Ent} {n : Nat} (b : Bf p q mk hour E n) {i o c : Int} {ch : List Int} (hi : (i, c) ∈ E.map (·.1)) (o0 : 0 ≤ o) (o1 : o < mk.length) (hn : (o, 1 - c) ∉ E.map (·.1))
    (he : if c = 1 then hr mk o % q = hr mk i % q else hr mk o % p = hr mk i % p) (hl : ch.length ≤ E.length + 1) : Bf p q mk hour (E ++ [((o, 1 - c), ch)]) n := by
  have J := LB_join hp hq (mk.map (·.1))
  obtain ⟨i0', i1', cc⟩ := b.rng _ hi
  have ei := J.eq _ ((hr_mem _).mpr ⟨i, ⟨i0', i1'⟩, rfl⟩)
  have eo := J.eq _ ((hr_mem _).mpr ⟨o, ⟨o0, o1⟩, rfl⟩)
  have old : ∀ {s}, s ∈ E.map (·.1) → s ∈ (E ++ [((o, 1 - c), ch)]).map (·.1) := fun h => by rw [List.map_append]; exact List.mem_append_left _ h
  have new : ∀ {s}, s ∈ (E ++ [((o, 1 - c), ch)]).map (·.1) → s ∈ E.map (·.1) ∨ s = (o, 1 - c) := fun h => by
    rw [List.map_append] at h
    exact (List.mem_append.mp h).imp id fun z => by simpa using z
  have hcon := b.con _ hi
  dsimp only at hcon cc
  refine ⟨?_, by rw [List.length_append]; have := b.le; omega, fun s hs => ?_, fun s hs => ?_, fun i h0 h1 e => old (b.ini i h0 h1 e), fun k hk => ?_, fun k hk => ?_, fun t s ht e => ?_, fun e he => ?_⟩
  · rw [List.map_append]
    refine List.nodup_append.mpr ⟨b.nd, by simp, fun x hx y hy z => ?_⟩
    rw [List.map_singleton, List.mem_singleton] at hy
    subst hy; subst z; exact hn hx
  · rcases new hs with z | rfl
    · exact b.rng s z
    · exact ⟨o0, o1, by rcases cc with rfl | rfl <;> simp⟩
  · rcases new hs with z | rfl
    · exact b.con s z
    · show getZ _ (hr mk o % p) = _
      split at he
      · rw [eo, he, ← ei]; exact hcon
      · rw [he]; exact hcon
  · rcases new hk with z | z
    · rcases b.i1 k z with w | ⟨k', w1, w2⟩
      · exact .inl w
      · exact .inr ⟨k', old w1, w2⟩
    · have z1 := congrArg Prod.fst z
      have z2 := congrArg Prod.snd z
      dsimp only at z1 z2
      subst z1
      have c0 : c = 0 := by omega
      subst c0
      rw [if_neg (by decide)] at he
      exact .inr ⟨i, old hi, he.symm⟩
  · rcases new hk with z | z
    · obtain ⟨k', w1, w2⟩ := b.i0 k z
      exact ⟨k', old w1, w2⟩
    · have z1 := congrArg Prod.fst z
      have z2 := congrArg Prod.snd z
      dsimp only at z1 z2
      subst z1
      have c0 : c = 1 := by omega
      subst c0
      rw [if_pos rfl] at he
      exact ⟨i, old hi, he.symm⟩
  · rw [List.map_append] at e
    by_cases hl : t < (E.map (·.1)).length
    · rw [List.getElem?_append_left hl] at e
      obtain ⟨d1, d2⟩ := b.done t s ht e
      exact ⟨fun z => ⟨(d1 z).1, fun j a b c d => old ((d1 z).2 j a b c d)⟩, fun z j a b c d => old (d2 z j a b c d)⟩
    · exfalso
      have := b.le
      rw [List.length_map] at hl
      omega
  · rw [List.length_append, List.length_singleton]
    rcases List.mem_append.mp he with z | z
    · have := b.len e z; omega
    · rw [List.mem_singleton] at z; subst z; exact hl
end K83
set_option Elab.async false
set_option linter.all false
set_option maxRecDepth 100000
set_option maxHeartbeats 4000000
namespace K83
open G3 L2 G3w G5
variable {p q : Nat} {mk : Of} {hour : Int}
theorem fm_ifG {α β : Type} {P : α → Bool} {f : α → β} {g : β → D} : ∀ l : List α, (l.filterMap fun x => if P x = true then some (g (f x)) else none) = ((l.filter P).map f).map g
  | [] => rfl
  | x :: l => by
    rw [List.filterMap_cons, List.filter_cons]
    by_cases h : P x = true
    · rw [if_pos h, if_pos h, List.map_cons, List.map_cons]; simp only []; rw [fm_ifG l]
    · rw [if_neg h, if_neg h]; simp only []; rw [fm_ifG l]
def q0 (p : Nat) (mk : Of) (hour : Int) : List Sta := (mk.zipIdx.filter fun x => decide (x.1.1 % p = hour % p)).map fun x => ((x.2 : Int), (1 : Int))
theorem q0_mem {s : Sta} : s ∈ q0 p mk hour ↔ (0 ≤ s.1 ∧ s.1 < mk.length) ∧ hr mk s.1 % p = hour % p ∧ s.2 = 1 := by
  have := mem_zip (mk := mk) (P := fun x => decide (x.1.1 % p = hour % p)) s.1
  simp only [decide_eq_true_eq] at this
  unfold q0
  rw [List.mem_map]
  constructor
  · rintro ⟨x, hx, rfl⟩
    have := this.mp (List.mem_map.mpr ⟨x, hx, rfl⟩)
    exact ⟨this.1, this.2, rfl⟩
  · rintro ⟨h1, h2, h3⟩
    obtain ⟨x, hx, e⟩ := List.mem_map.mp (this.mpr ⟨h1, h2⟩)
    exact ⟨x, hx, Prod.ext e h3.symm⟩
theorem q0_nodup : (q0 p mk hour).Nodup := by
  have h : (mk.zipIdx.map Prod.snd).Nodup := by
    rw [List.zipIdx_map_snd]
    exact List.nodup_range'
  have h2 := h.sublist (List.Sublist.map Prod.snd (List.filter_sublist (l := mk.zipIdx) (p := fun x => decide (x.1.1 % p = hour % p))))
  unfold q0 List.Nodup at *
  rw [List.pairwise_map] at h2 ⊢
  exact h2.imp fun hn z => hn (by have := congrArg Prod.fst z; dsimp only at this; omega)
def e0 (l : List Sta) : List Ent := l.map fun s => (s, [s.1])
theorem e0_fst {l : List Sta} : (e0 l).map (·.1) = l := by
  unfold e0; rw [List.map_map]; exact List.map_id l
theorem Bf.zero : Bf p q mk hour (e0 (q0 p mk hour)) 0 := by
  refine ⟨?_, Nat.zero_le _, fun s hs => ?_, fun s hs => ?_, fun i h0 h1 e => ?_, fun i hi => ?_, fun i hi => ?_, fun t s ht => by omega, fun e he => ?_⟩
  · rw [e0_fst]; exact q0_nodup
  · rw [e0_fst] at hs
    obtain ⟨h, _, h2⟩ := q0_mem.mp hs
    exact ⟨h.1, h.2, .inr h2⟩
  · rw [e0_fst] at hs
    rw [(q0_mem.mp hs).2.1]
  · rw [e0_fst]; exact q0_mem.mpr ⟨⟨h0, h1⟩, e, rfl⟩
  · rw [e0_fst] at hi; exact .inl (q0_mem.mp hi).2.1
  · rw [e0_fst] at hi; exact absurd (q0_mem.mp hi).2.2 (by simp)
  · have := List.length_pos_of_mem he
    unfold e0 at he
    obtain ⟨s, _, rfl⟩ := List.mem_map.mp he
    exact this
theorem Bf.succ {E : List Ent} {n : Nat} (b : Bf p q mk hour E n) {s : Sta} (e : (E.map (·.1))[n]? = some s)
    (h1 : s.2 = 1 → hr mk s.1 % q ≠ hour % q ∧ ∀ j : Int, 0 ≤ j → j < mk.length → j ≠ s.1 → hr mk j % q = hr mk s.1 % q → (j, (0 : Int)) ∈ E.map (·.1)) (h0 : s.2 = 0 → ∀ j : Int, 0 ≤ j → j < mk.length → j ≠ s.1 → hr mk j % p = hr mk s.1 % p → (j, (1 : Int)) ∈ E.map (·.1)) :
    Bf p q mk hour E (n + 1) := by
  refine ⟨b.nd, ?_, b.rng, b.con, b.ini, b.i1, b.i0, fun t s' ht e' => ?_, b.len⟩
  · have := (List.getElem?_eq_some_iff.mp e).1
    rw [List.length_map] at this
    omega
  · by_cases c : t < n
    · exact b.done t s' c e'
    · have : t = n := by omega
      subst this
      rw [e] at e'; cases e'
      exact ⟨h1, h0⟩
theorem dct_states {l : List Sta} {keep : Mp → Prop} {tk tv : TE3} {vs : List Nat} {i : Nat} {τ : S3} {M1 : Mp} {Q : K3} (nd : l.Nodup) (hl : l.length < PySem.sizeLine) (hk : ∀ M, Sub M1 M → keep M)
    (hf : ∀ s M (R : D → D → Mp → Prop), R (kpD s) (.tup [.int s.1]) M → tk ((wipe3 τ vs).set i (some (kpD s))) M fun y M4 => tv ((wipe3 τ vs).set i (some (kpD s))) M4 fun z M5 => R y z M5)
    (hQ : ∀ d, M1 d = none → Q (.ref d) (put M1 d (.dit ((e0 l).map enT)))) : dctW (l.map kpD) keep (.nm i) vs (fun _ M Q => Q true M) tk tv τ M1 Q := by
  intro d hd
  refine ⟨fun i acc M' => acc = (e0 (l.take i)).map enT ∧ M' = put M1 d (.dit acc), ⟨rfl, rfl⟩, ?_⟩
  rintro i acc M' ⟨rfl, rfl⟩ hi
  rw [List.length_map] at hi
  refine ⟨hk _ (.new hd), put_same, fun x hx => ?_, fun e => ?_⟩
  · rw [List.getElem?_map] at hx
    cases hz : l[i]? with
    | none => rw [hz] at hx; cases hx
    | some s =>
      rw [hz] at hx; cases hx
      have hil := (List.getElem?_eq_some_iff.mp hz).1
      refine hf s _ _ ?_
      have hs : s ∉ (e0 (l.take i)).map (·.1) := by
        rw [e0_fst]
        intro z
        have e2 : l = l.take i ++ s :: l.drop (i + 1) := by
          have := List.drop_eq_getElem_cons hil
          rw [List.getElem?_eq_getElem hil] at hz
          cases hz
          rw [← this, List.take_append_drop]
        rw [e2] at nd
        exact (List.nodup_append.mp nd).2.2 s z s List.mem_cons_self rfl
      refine ⟨?_, put_same, wk.of ⟨?_, ?_⟩⟩
      · unfold e0; rw [List.length_map, List.length_map, List.length_take]; omega
      · have := putT_new (c := [s.1]) hs
        rw [show (D.tup [.int s.1]) = .tup ([s.1].map .int) from rfl]
        show putT _ (ky s) _ = _
        rw [this, List.take_add_one, hz]
        unfold e0
        rw [show ((some s).toList : List Sta) = [s] from rfl]
        exact congrArg (List.map enT) (by rw [List.map_append]; rfl)
      · rw [put_put]
  · rw [List.length_map] at e
    subst e
    rw [List.take_length]
    exact wk.of (hQ d hd)
def HcI (M : Mp) (p q : Nat) (mk : Of) (hour : Int) (a d : Addr) (m : Nat) (τ : S3) (M' : Mp) : Prop := ∃ (E : List Ent) (n : Nat) (s7 s8 s9 s10 s11 : Option D), τ = [some (.int p), some (.int q), some (.tup (mk.map fun m => .tup [.int m.1, .int m.2])), some (.int hour), some (.ref a), some (.ref d), some (.int n), s7, s8, s9, s10, s11, none] ∧
    M' a = some (.lst (E.map enQ)) ∧ M' d = some (.dit (E.map enT)) ∧ Sub M M' ∧ Bf p q mk hour E n ∧ m = 2 * mk.length + 1 - n
def sp_height_chain : Sp3 := fun ds M Q => ∃ (p q : Nat) (mk : Of) (hour : Int), ds = [.int p, .int q, encM mk, .int hour] ∧ 0 < p ∧ 0 < q ∧ mk.length ≤ 1000 ∧ (¬ sm p q (mk.map (·.1)) hour → Q .non M) ∧ (sm p q (mk.map (·.1)) hour → ∀ T : List Int, Q (.tup (T.map .int)) M)
theorem t_height_chain : ∀ ds M Q, sp_height_chain ds M Q → G3.wpSs (b_height_chain sp_linked_marks) (rets Q) (st3 n_height_chain.length ds) M := by
  rintro ds M Q ⟨p, q, mk, hour, rfl, hp, hq, hl, kn, ks⟩
  simp only [n_height_chain, r1_height_chain, r2_height_chain, b_height_chain, encM, enum3_tup, enumD_map, G3.wpSs, G3.wpS, G3.wpE, G3.wpEL, G3.wpO, G3.wpTO, G3.wpT, G3.wpAnd, G3.wpOr, G3.wpAndT, G3.wpOrT, G3.wpI, G3.wpG, G3.wpGs, G3.wipe3, G3.GV.d, G3.st3, G3.bi3, G3.me3, G3.Me.ty, G3.rets, List.replicate, G3.wl, Nat.reduceAdd, Nat.reduceSub, reduceIte]
  refine lc_fm _ mk.zipIdx (fun x => if decide (x.1.1 % p = hour % p) = true then some (kpD ((x.2 : Int), 1)) else none) (fun _ _ => trivial) (fun a ha M' sb Qe Qn h h' => ?_) (by rw [sline, List.length_zipIdx]; omega) ?_
  · simp only [G3.wpSs, G3.wpS, G3.wpE, G3.wpEL, G3.wpO, G3.wpTO, G3.wpT, G3.wpAnd, G3.wpOr, G3.wpAndT, G3.wpOrT, G3.wpI, G3.wpG, G3.wpGs, G3.wipe3, G3.GV.d, G3.st3, G3.bi3, G3.me3, G3.Me.ty, G3.rets, List.replicate, G3.wl, Nat.reduceAdd, Nat.reduceSub, reduceIte]
    refine ⟨by omega, by omega, ?_⟩
    by_cases c2 : a.1.1 % p = hour % p
    · rw [if_pos c2]
      exact h (kpD ((a.2 : Int), 1)) (by rw [if_pos (decide_eq_true c2)]) _ .refl
    · rw [if_neg c2]
      exact h' (by simp [c2]) _ .refl
  rw [fm_ifG (P := fun x : (Int × Int) × Nat => decide (x.1.1 % p = hour % p)) (f := fun x => ((x.2 : Int), (1 : Int))) (g := kpD)]
  show newL ((q0 p mk hour).map kpD) _ _
  have b0 := Bf.zero (p := p) (q := q) (mk := mk) (hour := hour)
  have ql : (q0 p mk hour).length ≤ 2 * mk.length := by
    have := b0.bound
    unfold e0 at this
    rwa [List.length_map] at this
  intro a ha
  simp only [seqI_ref put_same, G3.wpSs, G3.wpS, G3.wpE, G3.wpEL, G3.wpO, G3.wpTO, G3.wpT, G3.wpAnd, G3.wpOr, G3.wpAndT, G3.wpOrT, G3.wpI, G3.wpG, G3.wpGs, G3.wipe3, G3.GV.d, G3.st3, G3.bi3, G3.me3, G3.Me.ty, G3.rets, List.replicate, G3.wl, Nat.reduceAdd, Nat.reduceSub, reduceIte]
  refine dct_states q0_nodup (by rw [sline]; omega) (fun M sb => sb _ _ put_same) (fun s M R h => ?_) fun d hd => ?_
  · simp only [kpD, ix3_kt, G3.wpSs, G3.wpS, G3.wpE, G3.wpEL, G3.wpO, G3.wpTO, G3.wpT, G3.wpAnd, G3.wpOr, G3.wpAndT, G3.wpOrT, G3.wpI, G3.wpG, G3.wpGs, G3.wipe3, G3.GV.d, G3.st3, G3.bi3, G3.me3, G3.Me.ty, G3.rets, List.replicate, G3.wl, Nat.reduceAdd, Nat.reduceSub, reduceIte]
    exact h
  have ea : put (put M a (.lst ((q0 p mk hour).map kpD))) d (.dit ((e0 (q0 p mk hour)).map enT)) a = some (.lst ((e0 (q0 p mk hour)).map enQ)) := by
    rw [put_keep put_same hd]
    congr 2
    unfold e0 enQ
    rw [List.map_map]; rfl
  have ed : put (put M a (.lst ((q0 p mk hour).map kpD))) d (.dit ((e0 (q0 p mk hour)).map enT)) d = some (.dit ((e0 (q0 p mk hour)).map enT)) := put_same
  have sb : Sub M (put (put M a (.lst ((q0 p mk hour).map kpD))) d (.dit ((e0 (q0 p mk hour)).map enT))) := (Sub.new ha).trans (Sub.new hd)
  obtain ⟨hd0, had⟩ := put_free hd
  generalize put (put M a (.lst ((q0 p mk hour).map kpD))) d (.dit ((e0 (q0 p mk hour)).map enT)) = M1 at *
  refine ⟨HcI M p q mk hour a d, ⟨_, _, 0, none, none, none, none, none, rfl, ea, ed, sb, b0, rfl⟩, ?_⟩
  clear ea ed sb b0
  rintro m τ M' ⟨E, n, s7, s8, s9, s10, s11, rfl, ea, ed, sb, bf, rfl⟩
  have El := bf.bound
  have nl := bf.le
  simp only [len3_ref ea, G3.wpSs, G3.wpS, G3.wpE, G3.wpEL, G3.wpO, G3.wpTO, G3.wpT, G3.wpAnd, G3.wpOr, G3.wpAndT, G3.wpOrT, G3.wpI, G3.wpG, G3.wpGs, G3.wipe3, G3.GV.d, G3.st3, G3.bi3, G3.me3, G3.Me.ty, G3.rets, List.replicate, G3.wl, Nat.reduceAdd, Nat.reduceSub, reduceIte]
  by_cases c : n < E.length
  · rw [if_pos (by omega)]
    have hE : (E.map (·.1))[n]? = some E[n].1 := by rw [List.getElem?_map, List.getElem?_eq_getElem c]; rfl
    have hm : E[n].1 ∈ E.map (·.1) := List.mem_of_getElem? hE
    generalize E[n].1 = st at *
    obtain ⟨i, b⟩ := st
    obtain ⟨r0, r1, r2⟩ := bf.rng _ hm
    dsimp only at r0 r1 r2
    have h1 : atI (E.map enQ) (n : Int) = some (kpD (i, b)) := atI_nat (by rw [show E.map enQ = (E.map (·.1)).map kpD by rw [List.map_map]; rfl, List.getElem?_map, hE]; rfl)
    have lk : ∀ (K : K3), (∀ ls : List Int, (∀ j, j ∈ ls ↔ (0 ≤ j ∧ j < mk.length) ∧ j ≠ i ∧ (if b = 1 then hr mk j % q = hr mk i % q else hr mk j % p = hr mk i % p)) → newL (ls.map .int) M' K) →
        (if b = 1 then sp_linked_marks [.int q, .tup (mk.map fun m => .tup [.int m.1, .int m.2]), .int i] M' K else sp_linked_marks [.int p, .tup (mk.map fun m => .tup [.int m.1, .int m.2]), .int i] M' K) := by
      intro K h
      split
      · rename_i c1
        exact ⟨q, mk, i, rfl, hq, r0, r1, hl, fun ls hls => h ls fun j => by rw [hls, if_pos c1]⟩
      · rename_i c1
        exact ⟨p, mk, i, rfl, hp, r0, r1, hl, fun ls hls => h ls fun j => by rw [hls, if_neg c1]⟩
    have am : atI (mk.map fun m => D.tup [.int m.1, .int m.2]) i = some (.tup [.int (hr mk i), .int (co mk i)]) := by
      rw [atI_map, atI_some r0 r1, Option.map_some]
      unfold hr co
      rw [List.getD_eq_getElem?_getD, List.getElem?_eq_getElem (by omega)]; rfl
    rw [ix3_ref ea, h1]
    simp only [kpD, decide_eq_true_eq, am, G3.wpSs, G3.wpS, G3.wpE, G3.wpEL, G3.wpO, G3.wpTO, G3.wpT, G3.wpAnd, G3.wpOr, G3.wpAndT, G3.wpOrT, G3.wpI, G3.wpG, G3.wpGs, G3.wipe3, G3.GV.d, G3.st3, G3.bi3, G3.me3, G3.Me.ty, G3.rets, List.replicate, G3.wl, Nat.reduceAdd, Nat.reduceSub, reduceIte]
    by_cases c1 : b = 1 ∧ hr mk i % q = hour % q
    · obtain ⟨rfl, c2⟩ := c1
      have fm := find_mem (s := (i, (1 : Int))) (E := E)
      rw [decide_eq_true hm] at fm
      obtain ⟨e, he⟩ := Option.isSome_iff_exists.mp fm
      rw [if_pos rfl]
      refine ⟨by omega, by omega, ?_⟩
      rw [if_pos c2, ix3_dit ed (keys_kp (s := (i, (1 : Int)))), getT_en, he]
      exact wk_sub sb (ks (bfs_some hp hq r0 r1 (bf.con _ hm) c2) _)
    have red : ∀ (R G : Prop), G → (if b = 1 then (0 < (q : Int) ∧ 0 < (q : Int) ∧ if hr mk i % q = hour % q then R else G) else G) := by
      intro R G g
      split
      · rename_i z
        exact ⟨by omega, by omega, by rw [if_neg fun y => c1 ⟨z, y⟩]; exact g⟩
      · exact g
    refine red _ _ ?_
    refine lk _ fun ls hls u hu => ?_
    have eu : put M' u (.lst (ls.map .int)) u = some (.lst (ls.map .int)) := put_same
    have ea' := put_keep (o' := .lst (ls.map D.int)) ea hu
    have ed' := put_keep (o' := .lst (ls.map D.int)) ed hu
    have sb' := sb.trans (Sub.new (o := .lst (ls.map D.int)) hu)
    have hua : u ≠ a := fun z => by rw [z, ea] at hu; cases hu
    have hud : u ≠ d := fun z => by rw [z, ed] at hu; cases hu
    generalize put M' u (.lst (ls.map D.int)) = M2 at *
    clear ea ed sb
    rw [seqI_ref eu]
    refine forW_rest D.int ls (fun r τ M3 => ∃ (F : List Ent) (t8 t11 : Option D), τ = [some (.int p), some (.int q), some (.tup (mk.map fun m => .tup [.int m.1, .int m.2])), some (.int hour), some (.ref a), some (.ref d), some (.int ((n : Int) + 1)), some (.kt [.int i, .int b]), t8, some (.int i), some (.int b), t11, none] ∧
      M3 a = some (.lst (F.map enQ)) ∧ M3 d = some (.dit (F.map enT)) ∧ M3 u = some (.lst (ls.map .int)) ∧ Sub M M3 ∧ Bf p q mk hour F n ∧ (F.map (·.1))[n]? = some (i, b) ∧ ∀ j ∈ ls, j ∈ r ∨ (j, 1 - b) ∈ F.map (·.1)) ⟨E, _, _, rfl, ea', ed', eu, sb', bf, hE, fun j hj => .inl hj⟩ (fun r τ M3 hP => ?_) (fun o r τ M3 ho hP => ?_) (fun τ M3 hP => ?_)
    · obtain ⟨F, t8, t11, rfl, fa, fd, fu, _⟩ := hP; exact fu
    · obtain ⟨F, t8, t11, rfl, fa, fd, fu, fs, fb, fn, fl⟩ := hP
      obtain ⟨⟨o0, o1⟩, o2, o3⟩ := (hls o).mp ho
      have hmF : (i, b) ∈ F.map (·.1) := List.mem_of_getElem? fn
      have fm := find_mem (s := (i, b)) (E := F)
      rw [decide_eq_true hmF] at fm
      obtain ⟨e, he⟩ := Option.isSome_iff_exists.mp fm
      have heF : e ∈ F := List.mem_of_find?_eq_some he
      have hel := fb.len e heF
      have hFl := fb.bound
      simp only [in3_dit fd (keys_kp (s := (o, 1 - b))), getT_en, Option.isSome_map, find_mem, G3.wpSs, G3.wpS, G3.wpE, G3.wpEL, G3.wpO, G3.wpTO, G3.wpT, G3.wpAnd, G3.wpOr, G3.wpAndT, G3.wpOrT, G3.wpI, G3.wpG, G3.wpGs, G3.wipe3, G3.GV.d, G3.st3, G3.bi3, G3.me3, G3.Me.ty, G3.rets, List.replicate, G3.wl, Nat.reduceAdd, Nat.reduceSub, reduceIte]
      by_cases w : (o, 1 - b) ∈ F.map (·.1)
      · simp only [decide_eq_true w, G3.wpSs, G3.wpS, G3.wpE, G3.wpEL, G3.wpO, G3.wpTO, G3.wpT, G3.wpAnd, G3.wpOr, G3.wpAndT, G3.wpOrT, G3.wpI, G3.wpG, G3.wpGs, G3.wipe3, G3.GV.d, G3.st3, G3.bi3, G3.me3, G3.Me.ty, G3.rets, List.replicate, G3.wl, Nat.reduceAdd, Nat.reduceSub, reduceIte]
        refine wk.of ⟨F, _, _, rfl, fa, fd, fu, fs, fb, fn, fun j hj => ?_⟩
        rcases fl j hj with z | z
        · rcases List.mem_cons.mp z with rfl | z
          · exact .inr w
          · exact .inl z
        · exact .inr z
      · have gi : getT (F.map enT) (ky (i, b)) = some (.tup (e.2.map .int)) := by rw [getT_en, he]; rfl
        simp only [decide_eq_false w, ix3_dit fd (keys_kp (s := (i, b))), gi, set3_dit fd (keys_kp (s := (o, 1 - b))), G3.wpSs, G3.wpS, G3.wpE, G3.wpEL, G3.wpO, G3.wpTO, G3.wpT, G3.wpAnd, G3.wpOr, G3.wpAndT, G3.wpOrT, G3.wpI, G3.wpG, G3.wpGs, G3.wipe3, G3.GV.d, G3.st3, G3.bi3, G3.me3, G3.Me.ty, G3.rets, List.replicate, G3.wl, Nat.reduceAdd, Nat.reduceSub, reduceIte]
        rw [show e.2.map D.int ++ [.int o] = (e.2 ++ [o]).map D.int by rw [List.map_append]; rfl, putT_new w]
        have fa' : put M3 d (.dit ((F ++ [((o, 1 - b), e.2 ++ [o])]).map enT)) a = some (.lst (F.map enQ)) := by rw [put_ne had.symm]; exact fa
        rw [isTyM_ref fa', refL_ref fa']
        refine ⟨by rw [sline]; omega, by rw [sline]; omega, rfl, by rw [sline, List.length_map]; omega, wk.of ⟨F ++ [((o, 1 - b), e.2 ++ [o])], _, _, rfl, ?_, ?_, ?_, (fs.put_free hd0).put_free ha, ?_, ?_, fun j hj => ?_⟩⟩
        · rw [put_same, List.map_append]; rfl
        · rw [put_ne had, put_same]
        · rw [put_ne hua, put_ne hud]; exact fu
        · exact fb.add hp hq hmF o0 o1 w o3 (by rw [List.length_append, List.length_singleton]; omega)
        · have hn := (List.getElem?_eq_some_iff.mp fn).1
          rw [List.map_append, List.getElem?_append_left hn]; exact fn
        · rw [List.map_append]
          rcases fl j hj with z | z
          · rcases List.mem_cons.mp z with rfl | z
            · exact .inr (List.mem_append_right _ (by simp))
            · exact .inl z
          · exact .inr (List.mem_append_left _ z)
    · obtain ⟨F, t8, t11, rfl, fa, fd, fu, fs, fb, fn, fl⟩ := hP
      have all : ∀ j : Int, 0 ≤ j → j < mk.length → j ≠ i → (if b = 1 then hr mk j % q = hr mk i % q else hr mk j % p = hr mk i % p) → (j, 1 - b) ∈ F.map (·.1) := fun j j0 j1 j2 j3 => by
        rcases fl j ((hls j).mpr ⟨⟨j0, j1⟩, j2, j3⟩) with z | z
        · cases z
        · exact z
      have := fb.bound
      have hn := (List.getElem?_eq_some_iff.mp fn).1
      rw [List.length_map] at hn
      refine ⟨2 * mk.length + 1 - (n + 1), by omega, wk.of ⟨F, n + 1, _, _, _, _, _, rfl, fa, fd, fs, fb.succ fn (fun z => ?_) (fun z => ?_), rfl⟩⟩
      · dsimp only at z ⊢
        subst z
        refine ⟨fun y => c1 ⟨rfl, y⟩, fun j j0 j1 j2 j3 => all j j0 j1 j2 (by rw [if_pos rfl]; exact j3)⟩
      · dsimp only at z ⊢
        subst z
        exact fun j j0 j1 j2 j3 => all j j0 j1 j2 (by rw [if_neg (by decide)]; exact j3)
  · rw [if_neg (by omega)]
    exact .of (wk_sub sb (kn (bf.fin hp hq (by omega))))
end K83
set_option Elab.async false
set_option linter.all false
set_option maxRecDepth 100000
set_option maxHeartbeats 4000000
/-! the law's parts: labels by roots -/
namespace K83
open G3 L2 G3w G5
variable {p q : Nat} {hs L : List Int}
theorem getZ_set {L : List Int} {k x v : Int} (k0 : 0 ≤ k) (k1 : k < L.length) (x0 : 0 ≤ x) : getZ (L.set k.toNat v) x = if x = k then v else getZ L x := by
  unfold getZ
  rw [List.getD_eq_getElem?_getD, List.getD_eq_getElem?_getD, List.getElem?_set]
  by_cases c : x = k
  · subst c; rw [if_pos rfl, if_pos rfl, if_pos (by omega)]; rfl
  · rw [if_neg c, if_neg (by omega)]
def ng (L : List Int) : Nat := (L.filter fun v => decide (v < 0)).length
theorem ng_set : ∀ {L : List Int} {k : Nat} {w : Int} (h : k < L.length), L[k] < 0 → 0 ≤ w → ng (L.set k w) + 1 = ng L
  | [], _, _, h, _, _ => by simp at h
  | v :: L, 0, w, _, hv, hw => by
    unfold ng
    have hv' : v < 0 := hv
    rw [List.set_cons_zero, List.filter_cons, List.filter_cons, if_neg (by simp; omega), if_pos (decide_eq_true hv'), List.length_cons]
  | v :: L, k + 1, w, h, hv, hw => by
    have ih := ng_set (L := L) (k := k) (w := w) (by simpa using h) (by simpa using hv) hw
    unfold ng at *
    rw [List.set_cons_succ, List.filter_cons, List.filter_cons]
    split
    · rw [List.length_cons, List.length_cons]; omega
    · exact ih
theorem ng_setZ {L : List Int} {k w : Int} (k0 : 0 ≤ k) (k1 : k < L.length) (hv : getZ L k < 0) (hw : 0 ≤ w) : ng (L.set k.toNat w) + 1 = ng L := by
  refine ng_set (by omega) ?_ hw
  unfold getZ at hv
  rw [List.getD_eq_getElem?_getD, List.getElem?_eq_getElem (by omega)] at hv
  exact hv
theorem ng_le (L : List Int) : ng L ≤ L.length := List.length_filter_le _ _
def Clo (p q : Nat) (hs : List Int) (S : Int → Prop) : Prop := ∀ h ∈ hs, S (h % p) ↔ S (p + h % q)
structure Pt (p q : Nat) (hs L : List Int) (i : Int) : Prop where
  len : L.length = p + q
  lab : ∀ x : Int, 0 ≤ x → x < (p : Int) + q → getZ L x = -1 ∨ (0 ≤ getZ L x ∧ getZ L x ≤ x ∧ getZ L x < i ∧ getZ L (getZ L x) = getZ L x)
  low : ∀ x : Int, 0 ≤ x → x < i → x < (p : Int) + q → 0 ≤ getZ L x
  eq : ∀ h ∈ hs, getZ L (h % p) = getZ L (p + h % q)
  con : ∀ S : Int → Prop, Clo p q hs S → ∀ x : Int, 0 ≤ x → x < (p : Int) + q → 0 ≤ getZ L x → (S x ↔ S (getZ L x))
structure Rt (p q : Nat) (hs L : List Int) (r : Int) : Prop where
  len : L.length = p + q
  lab : ∀ x : Int, 0 ≤ x → x < (p : Int) + q → getZ L x = -1 ∨ (0 ≤ getZ L x ∧ getZ L x ≤ x ∧ getZ L x ≤ r ∧ getZ L (getZ L x) = getZ L x)
  low : ∀ x : Int, 0 ≤ x → x ≤ r → x < (p : Int) + q → 0 ≤ getZ L x
  edge : ∀ h ∈ hs, getZ L (h % p) = getZ L (p + h % q) ∨ (getZ L (h % p) = r ∧ getZ L (p + h % q) = -1) ∨ (getZ L (p + h % q) = r ∧ getZ L (h % p) = -1)
  con : ∀ S : Int → Prop, Clo p q hs S → ∀ x : Int, 0 ≤ x → x < (p : Int) + q → 0 ≤ getZ L x → (S x ↔ S (getZ L x))
  root : getZ L r = r ∧ 0 ≤ r ∧ r < (p : Int) + q
theorem Pt.zero (hp : 0 < p) (hq : 0 < q) : Pt p q hs (List.replicate (p + q) (-1)) 0 := by
  have g : ∀ x : Int, 0 ≤ x → x < (p : Int) + q → getZ (List.replicate (p + q) (-1)) x = -1 := fun x h0 h1 => by
    unfold getZ
    rw [List.getD_eq_getElem?_getD, List.getElem?_replicate, if_pos (by omega)]; rfl
  refine ⟨List.length_replicate, fun x h0 h1 => .inl (g x h0 h1), fun x h0 h1 => by omega, fun h hh => ?_, fun S hS x h0 h1 h2 => by rw [g x h0 h1] at h2; omega⟩
  obtain ⟨a0, a1⟩ := rA (q := q) hp h
  obtain ⟨b0, b1⟩ := rB (p := p) hq h
  rw [g _ a0 a1, g _ b0 b1]
theorem Pt.skip {i : Int} (t : Pt p q hs L i) (h : 0 ≤ getZ L i) : Pt p q hs L (i + 1) := by
  refine ⟨t.len, fun x h0 h1 => ?_, fun x h0 h1 h2 => ?_, t.eq, t.con⟩
  · rcases t.lab x h0 h1 with z | ⟨z1, z2, z3, z4⟩
    · exact .inl z
    · exact .inr ⟨z1, z2, by omega, z4⟩
  · by_cases c : x = i
    · subst c; exact h
    · exact t.low x h0 (by omega) h2
theorem Pt.start (hp : 0 < p) (hq : 0 < q) {i : Int} (t : Pt p q hs L i) (i0 : 0 ≤ i) (i1 : i < (p : Int) + q) (h : getZ L i < 0) : Rt p q hs (L.set i.toNat i) i ∧ ng (L.set i.toNat i) + 1 ≤ p + q := by
  have len := t.len
  have hi : getZ L i = -1 := by
    rcases t.lab i i0 i1 with z | ⟨z, _⟩
    · exact z
    · omega
  have gs : ∀ x : Int, 0 ≤ x → getZ (L.set i.toNat i) x = if x = i then i else getZ L x := fun x x0 => getZ_set i0 (by omega) x0
  refine ⟨⟨by rw [List.length_set]; exact len, fun x h0 h1 => ?_, fun x h0 h1 h2 => ?_, fun h' hh => ?_, fun S hS x h0 h1 h2 => ?_, by rw [gs i i0, if_pos rfl], i0, i1⟩, ?_⟩
  · rw [gs x h0]
    split
    · exact .inr ⟨i0, by omega, Int.le_refl _, by rw [gs i i0, if_pos rfl]⟩
    · rcases t.lab x h0 h1 with z | ⟨z1, z2, z3, z4⟩
      · exact .inl z
      · exact .inr ⟨z1, z2, by omega, by rw [gs _ z1, if_neg (by omega)]; exact z4⟩
  · rw [gs x h0]
    split
    · exact i0
    · exact t.low x h0 (by omega) h2
  · obtain ⟨a0, a1⟩ := rA (q := q) hp h'
    obtain ⟨b0, b1⟩ := rB (p := p) hq h'
    have ap := Int.emod_lt_of_pos h' (show (0 : Int) < p by omega)
    have bq := Int.emod_nonneg h' (show (q : Int) ≠ 0 by omega)
    have e := t.eq h' hh
    rw [gs _ a0, gs _ b0]
    by_cases c1 : h' % p = i
    · rw [if_pos c1, if_neg (by omega)]
      rw [c1, hi] at e
      exact .inr (.inl ⟨rfl, e.symm⟩)
    · by_cases c2 : (p : Int) + h' % q = i
      · rw [if_neg c1, if_pos c2]
        rw [c2, hi] at e
        exact .inr (.inr ⟨rfl, e⟩)
      · rw [if_neg c1, if_neg c2]; exact .inl e
  · rw [gs x h0] at h2 ⊢
    split
    · rename_i c; rw [c]
    · rename_i c
      rw [if_neg c] at h2
      exact t.con S hS x h0 h1 h2
  · have := ng_setZ (w := i) i0 (by omega) h i0
    have := ng_le L
    omega
theorem Rt.grow (hp : 0 < p) (hq : 0 < q) {r a b : Int} (t : Rt p q hs L r) (a0 : 0 ≤ a) (a1 : a < (p : Int) + q) (b0 : 0 ≤ b) (b1 : b < (p : Int) + q) (ea : getZ L a = r) (eb : getZ L b < 0) (lk : ∀ S, Clo p q hs S → (S a ↔ S b)) :
    Rt p q hs (L.set b.toNat r) r ∧ ng (L.set b.toNat r) + 1 = ng L := by
  have len := t.len
  obtain ⟨rr, r0, r1⟩ := t.root
  have hb : getZ L b = -1 := by
    rcases t.lab b b0 b1 with z | ⟨z, _⟩
    · exact z
    · omega
  have br : r < b := by
    by_cases c : b ≤ r
    · have := t.low b b0 c b1; omega
    · omega
  have gs : ∀ x : Int, 0 ≤ x → getZ (L.set b.toNat r) x = if x = b then r else getZ L x := fun x x0 => getZ_set b0 (by omega) x0
  refine ⟨⟨by rw [List.length_set]; exact len, fun x h0 h1 => ?_, fun x h0 h1 h2 => ?_, fun h' hh => ?_, fun S hS x h0 h1 h2 => ?_, by rw [gs r r0, if_neg (by omega)]; exact rr, r0, r1⟩, ng_setZ b0 (by omega) eb r0⟩
  · rw [gs x h0]
    split
    · exact .inr ⟨r0, by omega, Int.le_refl _, by rw [gs r r0, if_neg (by omega)]; exact rr⟩
    · rcases t.lab x h0 h1 with z | ⟨z1, z2, z3, z4⟩
      · exact .inl z
      · refine .inr ⟨z1, z2, z3, ?_⟩
        rw [gs _ z1]
        split
        · rename_i c; rw [c, hb] at z4; omega
        · exact z4
  · rw [gs x h0, if_neg (by omega)]
    exact t.low x h0 h1 h2
  · obtain ⟨c0, c1⟩ := rA (q := q) hp h'
    obtain ⟨d0, d1⟩ := rB (p := p) hq h'
    have ap := Int.emod_lt_of_pos h' (show (0 : Int) < p by omega)
    have bq := Int.emod_nonneg h' (show (q : Int) ≠ 0 by omega)
    have e := t.edge h' hh
    rw [gs _ c0, gs _ d0]
    by_cases x1 : h' % p = b
    · rw [if_pos x1, if_neg (by omega)]
      rw [x1, hb] at e
      omega
    · by_cases x2 : (p : Int) + h' % q = b
      · rw [if_neg x1, if_pos x2]
        rw [x2, hb] at e
        omega
      · rw [if_neg x1, if_neg x2]; exact e
  · rw [gs x h0] at h2 ⊢
    split
    · rename_i c
      rw [c, ← lk S hS]
      have := t.con S hS a a0 a1 (by omega)
      rwa [ea] at this
    · rename_i c
      rw [if_neg c] at h2
      exact t.con S hS x h0 h1 h2
theorem Rt.close {r : Int} (t : Rt p q hs L r) (h : ∀ h ∈ hs, ¬ (getZ L (h % p) = r ∧ getZ L (p + h % q) < 0) ∧ ¬ (getZ L (p + h % q) = r ∧ getZ L (h % p) < 0)) : Pt p q hs L (r + 1) := by
  refine ⟨t.len, fun x h0 h1 => ?_, fun x h0 h1 h2 => t.low x h0 (by omega) h2, fun h' hh => ?_, t.con⟩
  · rcases t.lab x h0 h1 with z | ⟨z1, z2, z3, z4⟩
    · exact .inl z
    · exact .inr ⟨z1, z2, by omega, z4⟩
  · obtain ⟨h1, h2⟩ := h h' hh
    rcases t.edge h' hh with z | ⟨z1, z2⟩ | ⟨z1, z2⟩
    · exact z
    · exact absurd ⟨z1, by omega⟩ h1
    · exact absurd ⟨z1, by omega⟩ h2
theorem Pt.fin (t : Pt p q hs L ((p : Int) + q)) : Join p q hs L := by
  have nn : ∀ x : Int, 0 ≤ x → x < (p : Int) + q → 0 ≤ getZ L x := fun x h0 h1 => t.low x h0 h1 h1
  refine ⟨t.len, fun x h0 h1 => ?_, t.eq, fun x h0 h1 => ?_, fun S hS x h0 h1 => t.con S hS x h0 h1 (nn x h0 h1)⟩
  · have := nn x h0 h1
    rcases t.lab x h0 h1 with z | ⟨z1, z2, z3, z4⟩
    · omega
    · exact ⟨z1, z3, z4⟩
  · have := nn x h0 h1
    rcases t.lab x h0 h1 with z | ⟨z1, z2, z3, z4⟩
    · omega
    · exact z2
end K83
set_option Elab.async false
set_option linter.all false
set_option maxRecDepth 100000
set_option maxHeartbeats 4000000
/-! the law's parts, walked -/
namespace K83
open G3 L2 G3w G5
variable {p q : Nat} {hs L : List Int}
def mkD (h : Int) : D := .tup [.int h, .int 0]
/-- the lists -/
structure Mm (M M' : Mp) (a v m : Addr) (hs L V : List Int) : Prop where
  a : M' a = some (.lst (L.map .int))
  v : M' v = some (.lst (V.map .int))
  m : M' m = some (.lst (hs.map mkD))
  s : Sub M M'
def OI (M : Mp) (p q : Nat) (a v m : Addr) (hs : List Int) (i : Nat) (τ : S3) (M' : Mp) : Prop := ∃ L V s5 s6 s7 s8 s9 s10 s11, τ = [some (.int p), some (.int q), some (.ref m), some (.ref a), some (.ref v), s5, s6, s7, s8, s9, s10, s11] ∧ Mm M M' a v m hs L V ∧ V.length = p + q ∧ Pt p q hs L i
def TI (M : Mp) (p q : Nat) (a v m : Addr) (hs : List Int) (r : Nat) (i : Nat) (τ : S3) (M' : Mp) : Prop := ∃ L V s6 s7 s8 s9 s10 s11, τ = [some (.int p), some (.int q), some (.ref m), some (.ref a), some (.ref v), some (.int r), s6, s7, s8, s9, s10, s11] ∧ Mm M M' a v m hs L V ∧ V.length = p + q ∧ Rt p q hs L r ∧ ng L + i + 1 ≤ p + q
def MI (M : Mp) (p q : Nat) (a v m : Addr) (hs : List Int) (r : Nat) (L0 : List Int) (rest : List Int) (τ : S3) (M' : Mp) : Prop := ∃ L V s6 g s8 s9 s10 s11, τ = [some (.int p), some (.int q), some (.ref m), some (.ref a), some (.ref v), some (.int r), s6, some (.bl g), s8, s9, s10, s11] ∧ Mm M M' a v m hs L V ∧ V.length = p + q ∧ Rt p q hs L r ∧
  (g = false → L = L0 ∧ ∀ h ∈ hs, h ∈ rest ∨ (¬ (getZ L (h % p) = r ∧ getZ L (p + h % q) < 0) ∧ ¬ (getZ L (p + h % q) = r ∧ getZ L (h % p) < 0))) ∧ (g = true → ng L + 1 ≤ ng L0)
def sp__law_tide_parts : Sp3 := fun ds M Q => ∃ (p q : Nat) (m : Addr) (hs : List Int), ds = [.int p, .int q, .ref m] ∧ M m = some (.lst (hs.map mkD)) ∧ 0 < p ∧ 0 < q ∧ p ≤ 100 ∧ q ≤ 100 ∧
  ∀ a v (V : List Int) M', Sub M M' → M' a = some (.lst ((LB p q hs).map .int)) → newL [.ref a, .ref v] M' Q
theorem t__law_tide_parts : ∀ ds M Q, sp__law_tide_parts ds M Q → G3.wpSs b__law_tide_parts (rets Q) (st3 n__law_tide_parts.length ds) M := by
  rintro ds M Q ⟨p, q, m, hs, rfl, em, hp, hq, p1, q1, k⟩
  simp only [n__law_tide_parts, r1__law_tide_parts, r2__law_tide_parts, r3__law_tide_parts, b__law_tide_parts, G3.wpSs, G3.wpS, G3.wpE, G3.wpEL, G3.wpO, G3.wpTO, G3.wpT, G3.wpAnd, G3.wpOr, G3.wpAndT, G3.wpOrT, G3.wpI, G3.wpG, G3.wpGs, G3.wipe3, G3.GV.d, G3.st3, G3.bi3, G3.me3, G3.Me.ty, G3.rets, List.replicate, G3.wl, Nat.reduceAdd, Nat.reduceSub, reduceIte]
  intro a1 ha1
  rw [mul_ref put_same]
  refine ⟨⟨by omega, by omega, by rw [sline]; simp; omega⟩, ?_⟩
  rw [flat_rep]
  intro a ha
  intro v1 hv1
  rw [mul_ref put_same]
  refine ⟨⟨by omega, by omega, by rw [sline]; simp; omega⟩, ?_⟩
  rw [flat_rep]
  intro v hv
  have en : ((p : Int) + q).toNat = p + q := by omega
  rw [en] at hv1 hv ⊢
  have sb : Sub M (put (put (put (put M a1 (.lst [.int (-1)])) a (.lst (List.replicate (p + q) (.int (-1))))) v1 (.lst [.int 0])) v (.lst (List.replicate (p + q) (.int 0)))) := (((Sub.new ha1).trans (Sub.new ha)).trans (Sub.new hv1)).trans (Sub.new hv)
  have ea : put (put (put (put M a1 (.lst [.int (-1)])) a (.lst (List.replicate (p + q) (.int (-1))))) v1 (.lst [.int 0])) v (.lst (List.replicate (p + q) (.int 0))) a = some (.lst ((List.replicate (p + q) (-1)).map .int)) := by
    rw [put_keep (put_keep put_same hv1) hv, List.map_replicate]
  have ev : put (put (put (put M a1 (.lst [.int (-1)])) a (.lst (List.replicate (p + q) (.int (-1))))) v1 (.lst [.int 0])) v (.lst (List.replicate (p + q) (.int 0))) v = some (.lst ((List.replicate (p + q) 0).map .int)) := by
    rw [put_same, List.map_replicate]
  obtain ⟨ha0, _⟩ := put_free ha
  obtain ⟨hv0, _⟩ := put_free hv
  obtain ⟨hv0, hva⟩ := put_free hv0
  obtain ⟨hv0, _⟩ := put_free hv0
  have hma : m ≠ a := fun z => by subst z; rw [em] at ha0; cases ha0
  have hmv : m ≠ v := fun z => by subst z; rw [em] at hv0; cases hv0
  generalize put (put (put (put M a1 (.lst [.int (-1)])) a (.lst (List.replicate (p + q) (.int (-1))))) v1 (.lst [.int 0])) v (.lst (List.replicate (p + q) (.int 0))) = M1 at *
  have setA : ∀ {M' : Mp} {L V : List Int} {x w : Int}, Mm M M' a v m hs L V → L.length = p + q → 0 ≤ x → x < (p : Int) + q → ∀ R : Mp → Prop, (Mm M (put M' a (.lst ((L.set x.toNat w).map .int))) a v m hs (L.set x.toNat w) V → R (put M' a (.lst ((L.set x.toNat w).map .int)))) → set3 (.ref a) (.int x) (.int w) M' R := by
    intro M' L V x w mm ll x0 x1 R h
    rw [set3_ref mm.a, ixN_in x0 (by rw [List.length_map]; omega), some3_some, G3w.set_map]
    exact h ⟨put_same, by rw [put_ne hva]; exact mm.v, by rw [put_ne hma]; exact mm.m, mm.s.put_free ha0⟩
  have setV : ∀ {M' : Mp} {L V : List Int} {x w : Int}, Mm M M' a v m hs L V → V.length = p + q → 0 ≤ x → x < (p : Int) + q → ∀ R : Mp → Prop, (Mm M (put M' v (.lst ((V.set x.toNat w).map .int))) a v m hs L (V.set x.toNat w) → R (put M' v (.lst ((V.set x.toNat w).map .int)))) → set3 (.ref v) (.int x) (.int w) M' R := by
    intro M' L V x w mm ll x0 x1 R h
    rw [set3_ref mm.v, ixN_in x0 (by rw [List.length_map]; omega), some3_some, G3w.set_map]
    exact h ⟨by rw [put_ne hva.symm]; exact mm.a, put_same, by rw [put_ne hmv]; exact mm.m, mm.s.put_free hv0⟩
  refine ⟨by omega, by omega, OI M p q a v m hs, ⟨_, _, none, none, none, none, none, none, none, rfl, ⟨ea, ev, sb _ _ em, sb⟩, List.length_replicate, Pt.zero hp hq⟩, ?_⟩
  rintro r τ M2 ⟨L, V, s5, s6, s7, s8, s9, s10, s11, rfl, mm, vl, pt⟩ hr
  rw [rgD_length] at hr ⊢
  refine ⟨trivial, fun d hd => ?_, fun er => ?_⟩
  · obtain ⟨hr2, rfl⟩ := rgD_get hd
    have len := pt.len
    simp only [Int.zero_add, Int.mul_one, G3.wpSs, G3.wpS, G3.wpE, G3.wpEL, G3.wpO, G3.wpTO, G3.wpT, G3.wpAnd, G3.wpOr, G3.wpAndT, G3.wpOrT, G3.wpI, G3.wpG, G3.wpGs, G3.wipe3, G3.GV.d, G3.st3, G3.bi3, G3.me3, G3.Me.ty, G3.rets, List.replicate, G3.wl, Nat.reduceAdd, Nat.reduceSub, reduceIte]
    rw [ix3_intsL mm.a (by omega) (by omega)]
    simp only [G3.wpSs, G3.wpS, G3.wpE, G3.wpEL, G3.wpO, G3.wpTO, G3.wpT, G3.wpAnd, G3.wpOr, G3.wpAndT, G3.wpOrT, G3.wpI, G3.wpG, G3.wpGs, G3.wipe3, G3.GV.d, G3.st3, G3.bi3, G3.me3, G3.Me.ty, G3.rets, List.replicate, G3.wl, Nat.reduceAdd, Nat.reduceSub, reduceIte]
    by_cases c : getZ L r < 0
    · rw [if_pos c]
      refine setA mm len (by omega) (by omega) _ fun mm => ?_
      obtain ⟨rt, hn⟩ := pt.start hp hq (by omega) (by omega) c
      clear pt c
      generalize L.set (r : Int).toNat r = L at *
      generalize put M2 a (.lst (L.map .int)) = M3 at *
      refine ⟨by omega, by omega, TI M p q a v m hs r, ⟨L, V, _, _, _, _, _, _, rfl, mm, vl, rt, by omega⟩, ?_⟩
      rintro i τ M4 ⟨L, V, s6, s7, s8, s9, s10, s11, rfl, mm, vl, rt, hn⟩ hi
      rw [rgD_length] at hi ⊢
      refine ⟨trivial, fun d hd => ?_, fun ei => by exfalso; omega⟩
      obtain ⟨hi2, rfl⟩ := rgD_get hd
      simp only [G3.wpSs, G3.wpS, G3.wpE, G3.wpEL, G3.wpO, G3.wpTO, G3.wpT, G3.wpAnd, G3.wpOr, G3.wpAndT, G3.wpOrT, G3.wpI, G3.wpG, G3.wpGs, G3.wipe3, G3.GV.d, G3.st3, G3.bi3, G3.me3, G3.Me.ty, G3.rets, List.replicate, G3.wl, Nat.reduceAdd, Nat.reduceSub, reduceIte]
      rw [seqI_ref mm.m]
      refine forW_rest mkD hs (MI M p q a v m hs r L) ⟨L, V, _, false, _, _, _, _, rfl, mm, vl, rt, fun _ => ⟨rfl, fun h hh => .inl hh⟩, fun z => by cases z⟩ (fun rest τ M' hP => ?_) (fun h rest τ M' hh hP => ?_) (fun τ M' hP => ?_)
      · obtain ⟨L', V, s6, g, s8, s9, s10, s11, rfl, mm, _⟩ := hP; exact mm.m
      · obtain ⟨L', V, s6, g, s8, s9, s10, s11, rfl, mm, vl, rt, g0, g1⟩ := hP
        obtain ⟨a0, a1⟩ := rA (q := q) hp h
        obtain ⟨b0, b1⟩ := rB (p := p) hq h
        have len := rt.len
        simp only [mkD, G3.wpSs, G3.wpS, G3.wpE, G3.wpEL, G3.wpO, G3.wpTO, G3.wpT, G3.wpAnd, G3.wpOr, G3.wpAndT, G3.wpOrT, G3.wpI, G3.wpG, G3.wpGs, G3.wipe3, G3.GV.d, G3.st3, G3.bi3, G3.me3, G3.Me.ty, G3.rets, List.replicate, G3.wl, Nat.reduceAdd, Nat.reduceSub, reduceIte]
        refine ⟨by omega, by omega, ?_⟩
        have end_ : ∀ (L1 V1 : List Int) (g : Bool) (M5 : Mp), Mm M M5 a v m hs L1 V1 → V1.length = p + q → Rt p q hs L1 r → (g = false → L1 = L ∧ ∀ h' ∈ hs, h' ∈ rest ∨ (¬ (getZ L1 (h' % p) = r ∧ getZ L1 (p + h' % q) < 0) ∧ ¬ (getZ L1 (p + h' % q) = r ∧ getZ L1 (h' % p) < 0))) → (g = true → ng L1 + 1 ≤ ng L) →
            wk (MI M p q a v m hs r L rest [some (.int p), some (.int q), some (.ref m), some (.ref a), some (.ref v), some (.int r), s6, some (.bl g), some (.int h), some (.int 0), some (.int (h % p)), some (.int (p + h % q))]) M5 := fun L1 V1 g M5 mm vl rt g0 g1 => wk.of ⟨L1, V1, _, g, _, _, _, _, rfl, mm, vl, rt, g0, g1⟩
        have second : ∀ (L1 V1 : List Int) (g : Bool) (M5 : Mp), Mm M M5 a v m hs L1 V1 → V1.length = p + q → Rt p q hs L1 r → (g = false → L1 = L ∧ (∀ h' ∈ hs, h' ∈ rest ∨ h' = h ∨ (¬ (getZ L1 (h' % p) = r ∧ getZ L1 (p + h' % q) < 0) ∧ ¬ (getZ L1 (p + h' % q) = r ∧ getZ L1 (h' % p) < 0))) ∧ ¬ (getZ L1 (h % p) = r ∧ getZ L1 (p + h % q) < 0)) → (g = true → ng L1 + 1 ≤ ng L) →
            ix3 (.ref a) (.int (p + h % q)) M5 fun d M1 => cmp3 .eq d (.int r) M1 fun z M3 => isB3 z M3 fun k M1 => if k = true then ix3 (.ref a) (.int (h % p)) M1 fun d M1 => cmp3 .lt d (.int 0) M1 fun z M3 => isB3 z M3 fun k M1 => if k = true then
                set3 (.ref a) (.int (h % p)) (.int r) M1 fun M4 => ix3 (.ref v) (.int (p + h % q)) M4 fun e M2 => bin3 .sub (.int 0) e M2 fun x M1 => set3 (.ref v) (.int (h % p)) x M1 fun M4 =>
                wk (MI M p q a v m hs r L rest [some (.int p), some (.int q), some (.ref m), some (.ref a), some (.ref v), some (.int r), s6, some (.bl true), some (.int h), some (.int 0), some (.int (h % p)), some (.int (p + h % q))]) M4
              else wk (MI M p q a v m hs r L rest [some (.int p), some (.int q), some (.ref m), some (.ref a), some (.ref v), some (.int r), s6, some (.bl g), some (.int h), some (.int 0), some (.int (h % p)), some (.int (p + h % q))]) M1
            else wk (MI M p q a v m hs r L rest [some (.int p), some (.int q), some (.ref m), some (.ref a), some (.ref v), some (.int r), s6, some (.bl g), some (.int h), some (.int 0), some (.int (h % p)), some (.int (p + h % q))]) M1 := by
          intro L1 V1 g M5 mm vl rt g0 g1
          have len := rt.len
          have stay : ¬ (getZ L1 (p + h % q) = r ∧ getZ L1 (h % p) < 0) → (g = false → L1 = L ∧ ∀ h' ∈ hs, h' ∈ rest ∨ (¬ (getZ L1 (h' % p) = r ∧ getZ L1 (p + h' % q) < 0) ∧ ¬ (getZ L1 (p + h' % q) = r ∧ getZ L1 (h' % p) < 0))) := fun hn hg => by
            obtain ⟨e, h1, h2⟩ := g0 hg
            refine ⟨e, fun h' hh' => ?_⟩
            rcases h1 h' hh' with z | z | z
            · exact .inl z
            · subst z; exact .inr ⟨h2, hn⟩
            · exact .inr z
          rw [ix3_intsL mm.a b0 (by omega), G3.eq_int, isB3_bl]
          by_cases c1 : getZ L1 (p + h % q) = r
          · rw [decide_eq_true c1, if_pos rfl, ix3_intsL mm.a a0 (by omega), G3.lt_int, isB3_bl]
            by_cases c2 : getZ L1 (h % p) < 0
            · rw [decide_eq_true c2, if_pos rfl]
              refine setA mm len a0 a1 _ fun mm2 => ?_
              obtain ⟨rt2, e2⟩ := rt.grow hp hq b0 b1 a0 a1 c1 c2 (fun S hS => (hS h hh).symm)
              rw [ix3_intsL mm2.v b0 (by omega), G3.sub_int]
              refine setV mm2 vl a0 a1 _ fun mm3 => ?_
              refine end_ _ _ true _ mm3 (by rw [List.length_set]; exact vl) rt2 (fun z => by cases z) fun _ => ?_
              cases g with
              | false => have := (g0 rfl).1; subst this; omega
              | true => have := g1 rfl; omega
            · rw [decide_eq_false c2, if_neg Bool.false_ne_true]
              exact end_ _ _ g _ mm vl rt (stay fun z => c2 z.2) g1
          · rw [decide_eq_false c1, if_neg Bool.false_ne_true]
            exact end_ _ _ g _ mm vl rt (stay fun z => c1 z.1) g1
        have g0' : g = false → L' = L ∧ (∀ h' ∈ hs, h' ∈ rest ∨ h' = h ∨ (¬ (getZ L' (h' % p) = r ∧ getZ L' (p + h' % q) < 0) ∧ ¬ (getZ L' (p + h' % q) = r ∧ getZ L' (h' % p) < 0))) := fun z => by
          obtain ⟨e, h1⟩ := g0 z
          refine ⟨e, fun h' hh' => ?_⟩
          rcases h1 h' hh' with w | w
          · rcases List.mem_cons.mp w with w | w
            · exact .inr (.inl w)
            · exact .inl w
          · exact .inr (.inr w)
        rw [ix3_intsL mm.a a0 (by omega), G3.eq_int, isB3_bl]
        by_cases c1 : getZ L' (h % p) = r
        · rw [decide_eq_true c1, if_pos rfl, ix3_intsL mm.a b0 (by omega), G3.lt_int, isB3_bl]
          by_cases c2 : getZ L' (p + h % q) < 0
          · rw [decide_eq_true c2, if_pos rfl]
            refine setA mm len b0 b1 _ fun mm2 => ?_
            obtain ⟨rt2, e2⟩ := rt.grow hp hq a0 a1 b0 b1 c1 c2 (fun S hS => hS h hh)
            rw [ix3_intsL mm2.v a0 (by omega), G3.sub_int]
            refine setV mm2 vl b0 b1 _ fun mm3 => ?_
            refine second _ _ true _ mm3 (by rw [List.length_set]; exact vl) rt2 (fun z => by cases z) fun _ => ?_
            cases g with
            | false => have := (g0 rfl).1; subst this; omega
            | true => have := g1 rfl; omega
          · rw [decide_eq_false c2, if_neg Bool.false_ne_true]
            exact second _ _ g _ mm vl rt (fun z => ⟨(g0' z).1, (g0' z).2, fun w => c2 w.2⟩) g1
        · rw [decide_eq_false c1, if_neg Bool.false_ne_true]
          exact second _ _ g _ mm vl rt (fun z => ⟨(g0' z).1, (g0' z).2, fun w => c1 w.1⟩) g1
      · obtain ⟨L', V, s6, g, s8, s9, s10, s11, rfl, mm, vl, rt, g0, g1⟩ := hP
        simp only [G3.wpSs, G3.wpS, G3.wpE, G3.wpEL, G3.wpO, G3.wpTO, G3.wpT, G3.wpAnd, G3.wpOr, G3.wpAndT, G3.wpOrT, G3.wpI, G3.wpG, G3.wpGs, G3.wipe3, G3.GV.d, G3.st3, G3.bi3, G3.me3, G3.Me.ty, G3.rets, List.replicate, G3.wl, Nat.reduceAdd, Nat.reduceSub, reduceIte]
        cases g with
        | false =>
          obtain ⟨_, h1⟩ := g0 rfl
          rw [if_pos (by simp)]
          refine wk.of ⟨L', V, _, _, _, _, _, _, _, rfl, mm, vl, rt.close fun h hh => ?_⟩
          rcases h1 h hh with z | z
          · cases z
          · exact z
        | true =>
          have := g1 rfl
          rw [if_neg (by simp)]
          exact wk.of ⟨L', V, _, _, _, _, _, _, rfl, mm, vl, rt, by omega⟩
    · rw [if_neg c]
      exact wk.of ⟨L, V, _, _, _, _, _, _, _, rfl, mm, vl, pt.skip (by omega)⟩
  · subst er
    refine wk.of ?_
    have pt' : Pt p q hs L ((p : Int) + q) := by
      have e : (((p : Int) + q).toNat : Int) = (p : Int) + q := by omega
      rw [← e]; exact pt
    have ej := join_eq hp hq pt'.fin
    subst ej
    simp only [G3.wpSs, G3.wpS, G3.wpE, G3.wpEL, G3.wpO, G3.wpTO, G3.wpT, G3.wpAnd, G3.wpOr, G3.wpAndT, G3.wpOrT, G3.wpI, G3.wpG, G3.wpGs, G3.wipe3, G3.GV.d, G3.st3, G3.bi3, G3.me3, G3.Me.ty, G3.rets, List.replicate, G3.wl, Nat.reduceAdd, Nat.reduceSub, reduceIte]
    exact newL_wk (k a v V _ mm.s mm.a)
end K83
set_option Elab.async false
set_option linter.all false
set_option maxRecDepth 100000
set_option maxHeartbeats 4000000
/-! the law's own functions, walked -/
namespace K83
open G3 L2 G3w G5
variable {p q : Nat} {hs L : List Int}
def sp__law_edge_places : Sp3 := fun ds M Q => ∃ (p q : Nat) (h : Int), ds = [.int p, .int q, .int h] ∧ 0 < p ∧ 0 < q ∧ Q (.tup [.int (h % p), .int (p + h % q)]) M
theorem t__law_edge_places : ∀ ds M Q, sp__law_edge_places ds M Q → G3.wpSs b__law_edge_places (rets Q) (st3 n__law_edge_places.length ds) M := by
  rintro ds M Q ⟨p, q, h, rfl, hp, hq, k⟩
  simp only [n__law_edge_places, b__law_edge_places, G3.wpSs, G3.wpS, G3.wpE, G3.wpEL, G3.wpO, G3.wpTO, G3.wpT, G3.wpAnd, G3.wpOr, G3.wpAndT, G3.wpOrT, G3.wpI, G3.wpG, G3.wpGs, G3.wipe3, G3.GV.d, G3.st3, G3.bi3, G3.me3, G3.Me.ty, G3.rets, List.replicate, G3.wl, Nat.reduceAdd, Nat.reduceSub, reduceIte]
  exact ⟨by omega, by omega, .of k⟩
def sp__law_joined_parts : Sp3 := fun ds M Q => ∃ (p q : Nat) (m : Addr) (hs : List Int), ds = [.int p, .int q, .ref m] ∧ M m = some (.lst (hs.map .int)) ∧ hs.length ≤ 1000 ∧ 0 < p ∧ 0 < q ∧ p ≤ 100 ∧ q ≤ 100 ∧
  ∀ a M', Sub M M' → M' a = some (.lst ((LB p q hs).map .int)) → Q (.ref a) M'
theorem t__law_joined_parts : ∀ ds M Q, sp__law_joined_parts ds M Q → G3.wpSs (b__law_joined_parts sp__law_tide_parts) (rets Q) (st3 n__law_joined_parts.length ds) M := by
  rintro ds M Q ⟨p, q, m, hs, rfl, em, hl, hp, hq, p1, q1, k⟩
  simp only [n__law_joined_parts, b__law_joined_parts, seqI_ref em, G3.wpSs, G3.wpS, G3.wpE, G3.wpEL, G3.wpO, G3.wpTO, G3.wpT, G3.wpAnd, G3.wpOr, G3.wpAndT, G3.wpOrT, G3.wpI, G3.wpG, G3.wpGs, G3.wipe3, G3.GV.d, G3.st3, G3.bi3, G3.me3, G3.Me.ty, G3.rets, List.replicate, G3.wl, Nat.reduceAdd, Nat.reduceSub, reduceIte]
  refine lc_mp D.int hs mkD (fun M' sb => sb _ _ em) (fun h hh M' sb Qe k => ?_) (by rw [sline]; omega) ?_
  · simp only [G3.wpSs, G3.wpS, G3.wpE, G3.wpEL, G3.wpO, G3.wpTO, G3.wpT, G3.wpAnd, G3.wpOr, G3.wpAndT, G3.wpOrT, G3.wpI, G3.wpG, G3.wpGs, G3.wipe3, G3.GV.d, G3.st3, G3.bi3, G3.me3, G3.Me.ty, G3.rets, List.replicate, G3.wl, Nat.reduceAdd, Nat.reduceSub, reduceIte]; exact k _ .refl
  intro b hb
  refine ⟨p, q, b, hs, rfl, put_same, hp, hq, p1, q1, fun a v V M' sb ea c hc => ?_⟩
  dsimp only
  rw [ix3_ref put_same]
  simp only [G3.wpSs, G3.wpS, G3.wpE, G3.wpEL, G3.wpO, G3.wpTO, G3.wpT, G3.wpAnd, G3.wpOr, G3.wpAndT, G3.wpOrT, G3.wpI, G3.wpG, G3.wpGs, G3.wipe3, G3.GV.d, G3.st3, G3.bi3, G3.me3, G3.Me.ty, G3.rets, List.replicate, G3.wl, Nat.reduceAdd, Nat.reduceSub, reduceIte]
  exact .of (k a _ ((Sub.new hb).trans (sb.trans (Sub.new hc))) (put_keep ea hc))
def sp__law_tells_all : Sp3 := fun ds M Q => ∃ (p q : Nat) (m : Addr) (hs : List Int), ds = [.int p, .int q, .ref m] ∧ M m = some (.lst (hs.map .int)) ∧ hs.length ≤ 1000 ∧ 0 < p ∧ 0 < q ∧ p ≤ 100 ∧ q ≤ 100 ∧
  Q (.bl (decide (parts p q hs = Nat.gcd p q))) M
theorem LB_len (hp : 0 < p) (hq : 0 < q) : (LB p q hs).length = p + q := (LB_join hp hq hs).len
theorem rg_map {n : Nat} : rgD 0 1 n = (List.range n).map fun k : Nat => D.int (k : Int) := by
  unfold rgD
  exact List.map_congr_left fun k _ => by congr 1; omega
theorem t__law_tells_all : ∀ ds M Q, sp__law_tells_all ds M Q → G3.wpSs (b__law_tells_all sp__law_gcd sp__law_joined_parts) (rets Q) (st3 n__law_tells_all.length ds) M := by
  rintro ds M Q ⟨p, q, m, hs, rfl, em, hl, hp, hq, p1, q1, k⟩
  simp only [n__law_tells_all, b__law_tells_all, G3.wpSs, G3.wpS, G3.wpE, G3.wpEL, G3.wpO, G3.wpTO, G3.wpT, G3.wpAnd, G3.wpOr, G3.wpAndT, G3.wpOrT, G3.wpI, G3.wpG, G3.wpGs, G3.wipe3, G3.GV.d, G3.st3, G3.bi3, G3.me3, G3.Me.ty, G3.rets, List.replicate, G3.wl, Nat.reduceAdd, Nat.reduceSub, reduceIte]
  refine ⟨p, q, m, hs, rfl, em, hl, hp, hq, p1, q1, fun a M' sb ea => ?_⟩
  have len := LB_len (hs := hs) hp hq
  simp only [G3.wpSs, G3.wpS, G3.wpE, G3.wpEL, G3.wpO, G3.wpTO, G3.wpT, G3.wpAnd, G3.wpOr, G3.wpAndT, G3.wpOrT, G3.wpI, G3.wpG, G3.wpGs, G3.wipe3, G3.GV.d, G3.st3, G3.bi3, G3.me3, G3.Me.ty, G3.rets, List.replicate, G3.wl, Nat.reduceAdd, Nat.reduceSub, reduceIte]
  refine ⟨by omega, by omega, ?_⟩
  rw [show ((p : Int) + q).toNat = p + q by omega, rg_map]
  refine lc_fm (fun k : Nat => D.int (k : Int)) (List.range (p + q)) (fun k => if decide (getZ (LB p q hs) k = k) = true then some (.int (k : Int)) else none) (fun _ _ => trivial) (fun i hi M2 sb2 Qe Qn h h' => ?_) (by rw [sline, List.length_range]; omega) ?_
  · have hi := List.mem_range.mp hi
    simp only [G3.wpSs, G3.wpS, G3.wpE, G3.wpEL, G3.wpO, G3.wpTO, G3.wpT, G3.wpAnd, G3.wpOr, G3.wpAndT, G3.wpOrT, G3.wpI, G3.wpG, G3.wpGs, G3.wipe3, G3.GV.d, G3.st3, G3.bi3, G3.me3, G3.Me.ty, G3.rets, List.replicate, G3.wl, Nat.reduceAdd, Nat.reduceSub, reduceIte]
    rw [ix3_intsL (sb2 _ _ ea) (by omega) (by omega)]
    simp only [G3.wpSs, G3.wpS, G3.wpE, G3.wpEL, G3.wpO, G3.wpTO, G3.wpT, G3.wpAnd, G3.wpOr, G3.wpAndT, G3.wpOrT, G3.wpI, G3.wpG, G3.wpGs, G3.wipe3, G3.GV.d, G3.st3, G3.bi3, G3.me3, G3.Me.ty, G3.rets, List.replicate, G3.wl, Nat.reduceAdd, Nat.reduceSub, reduceIte]
    by_cases c : getZ (LB p q hs) i = i
    · rw [if_pos c]; exact h _ (by rw [if_pos (decide_eq_true c)]) _ .refl
    · rw [if_neg c]; exact h' (by rw [if_neg (by simp [c])]) _ .refl
  · rw [fm_ifG (P := fun k : Nat => decide (getZ (LB p q hs) k = k)) (f := fun k => k) (g := fun k : Nat => D.int (k : Int)), List.map_id']
    intro b hb
    simp only [len3_ref put_same, G3.wpSs, G3.wpS, G3.wpE, G3.wpEL, G3.wpO, G3.wpTO, G3.wpT, G3.wpAnd, G3.wpOr, G3.wpAndT, G3.wpOrT, G3.wpI, G3.wpG, G3.wpGs, G3.wipe3, G3.GV.d, G3.st3, G3.bi3, G3.me3, G3.Me.ty, G3.rets, List.replicate, G3.wl, Nat.reduceAdd, Nat.reduceSub, reduceIte]
    refine ⟨p, q, rfl, by omega, ?_⟩
    simp only [G3.wpSs, G3.wpS, G3.wpE, G3.wpEL, G3.wpO, G3.wpTO, G3.wpT, G3.wpAnd, G3.wpOr, G3.wpAndT, G3.wpOrT, G3.wpI, G3.wpG, G3.wpGs, G3.wipe3, G3.GV.d, G3.st3, G3.bi3, G3.me3, G3.Me.ty, G3.rets, List.replicate, G3.wl, Nat.reduceAdd, Nat.reduceSub, reduceIte]
    rw [show decide ((((List.range (p + q)).filter fun k : Nat => decide (getZ (LB p q hs) k = k)).length : Int) = (Nat.gcd p q : Nat)) = decide (parts p q hs = Nat.gcd p q) by
      rw [Bool.eq_iff_iff, decide_eq_true_eq, decide_eq_true_eq]
      unfold parts cnt
      omega]
    exact wk_sub (sb.trans (Sub.new hb)) k
theorem lcm_gcd {p q : Nat} (hp : 0 < p) (hq : 0 < q) : (p : Int) * q / ((Nat.gcd p q : Nat) : Int) = ((Nat.lcm p q : Nat) : Int) := by
  unfold Nat.lcm
  rw [← Int.natCast_mul, ← Int.natCast_ediv]
theorem t__law_gap : ∀ ds M Q, sp_first_gap ds M Q → G3.wpSs (b__law_gap sp__law_gcd sp__law_edge_places sp__law_joined_parts) (rets Q) (st3 n__law_gap.length ds) M := by
  rintro ds M Q ⟨p, q, of, rfl, hp, hq, p1, q1, hl, k⟩
  obtain ⟨l0, l1⟩ := lcm_small hp hq p1 q1
  simp only [n__law_gap, r1__law_gap, b__law_gap, encM, G3.wpSs, G3.wpS, G3.wpE, G3.wpEL, G3.wpO, G3.wpTO, G3.wpT, G3.wpAnd, G3.wpOr, G3.wpAndT, G3.wpOrT, G3.wpI, G3.wpG, G3.wpGs, G3.wipe3, G3.GV.d, G3.st3, G3.bi3, G3.me3, G3.Me.ty, G3.rets, List.replicate, G3.wl, Nat.reduceAdd, Nat.reduceSub, reduceIte]
  refine lc_mp _ of (fun o => .int o.1) (fun _ _ => trivial) (fun a ha M' sb Qe h => ?_) (by rw [sline]; omega) ?_
  · simp only [G3.wpSs, G3.wpS, G3.wpE, G3.wpEL, G3.wpO, G3.wpTO, G3.wpT, G3.wpAnd, G3.wpOr, G3.wpAndT, G3.wpOrT, G3.wpI, G3.wpG, G3.wpGs, G3.wipe3, G3.GV.d, G3.st3, G3.bi3, G3.me3, G3.Me.ty, G3.rets, List.replicate, G3.wl, Nat.reduceAdd, Nat.reduceSub, reduceIte]; exact h _ .refl
  rw [show (of.map fun o => D.int o.1) = (of.map (·.1)).map .int by rw [List.map_map]; rfl]
  have hl' : (of.map (·.1)).length ≤ 1000 := by rw [List.length_map]; exact hl
  generalize of.map (·.1) = hs at *
  intro a ha
  refine ⟨p, q, a, hs, rfl, put_same, hl', hp, hq, p1, q1, fun b M1 sb1 eb => ?_⟩
  have sb : Sub M M1 := (Sub.new ha).trans sb1
  have len := LB_len (hs := hs) hp hq
  simp only [G3.wpSs, G3.wpS, G3.wpE, G3.wpEL, G3.wpO, G3.wpTO, G3.wpT, G3.wpAnd, G3.wpOr, G3.wpAndT, G3.wpOrT, G3.wpI, G3.wpG, G3.wpGs, G3.wipe3, G3.GV.d, G3.st3, G3.bi3, G3.me3, G3.Me.ty, G3.rets, List.replicate, G3.wl, Nat.reduceAdd, Nat.reduceSub, reduceIte]
  refine ⟨MulOk_small (by omega) (by omega), p, q, rfl, by omega, ?_⟩
  have g0 : 0 < Nat.gcd p q := Nat.gcd_pos_of_pos_left _ hp
  have g1 : Nat.gcd p q ≤ 100 := Nat.le_trans (Nat.gcd_le_left _ hp) p1
  have big : ∀ n : Nat, n ≤ 10000 → (-2 ^ 62 ≤ (n : Int)) ∧ (n : Int) < 2 ^ 62 := fun n hn => ⟨by omega, by omega⟩
  simp only [G3.wpSs, G3.wpS, G3.wpE, G3.wpEL, G3.wpO, G3.wpTO, G3.wpT, G3.wpAnd, G3.wpOr, G3.wpAndT, G3.wpOrT, G3.wpI, G3.wpG, G3.wpGs, G3.wipe3, G3.GV.d, G3.st3, G3.bi3, G3.me3, G3.Me.ty, G3.rets, List.replicate, G3.wl, Nat.reduceAdd, Nat.reduceSub, reduceIte]
  refine ⟨DivOk_small (by omega) (by omega), ?_⟩
  rw [lcm_gcd hp hq]
  refine ⟨(big _ l1).1, (big _ l1).2, ?_⟩
  rw [Int.toNat_natCast, rg_map]
  refine forW_rest (fun k : Nat => D.int (k : Int)) (List.range (p.lcm q)) (fun r τ M' => ∃ s4 s5 s6, τ = [some (.int p), some (.int q), some (.tup (of.map fun m => .tup [.int m.1, .int m.2])), some (.ref b), s4, s5, s6, none] ∧ M' = M1 ∧
    gap p q hs = (r.find? fun h : Nat => !decide (sm p q hs h)).map fun h : Nat => (h : Int)) ⟨_, _, _, rfl, rfl, rfl⟩ (fun _ _ _ _ => trivial) (fun h r τ M' hm hP => ?_) (fun τ M' hP => ?_)
  · obtain ⟨s4, s5, s6, rfl, rfl, e⟩ := hP
    obtain ⟨a0, a1⟩ := rA (q := q) hp (h : Int)
    obtain ⟨b0, b1⟩ := rB (p := p) hq (h : Int)
    simp only [G3.wpSs, G3.wpS, G3.wpE, G3.wpEL, G3.wpO, G3.wpTO, G3.wpT, G3.wpAnd, G3.wpOr, G3.wpAndT, G3.wpOrT, G3.wpI, G3.wpG, G3.wpGs, G3.wipe3, G3.GV.d, G3.st3, G3.bi3, G3.me3, G3.Me.ty, G3.rets, List.replicate, G3.wl, Nat.reduceAdd, Nat.reduceSub, reduceIte]
    refine ⟨p, q, h, rfl, hp, hq, ?_⟩
    simp only [G3.wpSs, G3.wpS, G3.wpE, G3.wpEL, G3.wpO, G3.wpTO, G3.wpT, G3.wpAnd, G3.wpOr, G3.wpAndT, G3.wpOrT, G3.wpI, G3.wpG, G3.wpGs, G3.wipe3, G3.GV.d, G3.st3, G3.bi3, G3.me3, G3.Me.ty, G3.rets, List.replicate, G3.wl, Nat.reduceAdd, Nat.reduceSub, reduceIte]
    rw [ix3_intsL eb a0 (by omega), ix3_intsL eb b0 (by omega), G3.ne_int, isB3_bl]
    rw [List.find?_cons] at e
    by_cases c : sm p q hs h
    · have c' : getZ (LB p q hs) ((h : Int) % p) = getZ (LB p q hs) (p + (h : Int) % q) := c
      rw [decide_eq_true c] at e
      rw [decide_eq_true c', if_neg (by simp)]
      exact wk.of ⟨_, _, _, rfl, rfl, e⟩
    · have c' : ¬ getZ (LB p q hs) ((h : Int) % p) = getZ (LB p q hs) (p + (h : Int) % q) := c
      rw [decide_eq_false c] at e
      rw [decide_eq_false c', if_pos (by simp)]
      rw [e] at k
      exact wk_sub sb k
  · obtain ⟨s4, s5, s6, rfl, rfl, e⟩ := hP
    rw [e] at k
    exact wk_sub sb k
theorem at_of {of : Of} {i : Int} (r0 : 0 ≤ i) (r1 : i < of.length) : atI (of.map fun m => D.tup [.int m.1, .int m.2]) i = some (.tup [.int (hr of i), .int (co of i)]) := by
  rw [atI_map, atI_some r0 r1, Option.map_some]
  unfold hr co
  rw [List.getD_eq_getElem?_getD, List.getElem?_eq_getElem (by omega)]; rfl
theorem best_ex (p q : Nat) (of : Of) : ∃ T, Best p q of T := by
  obtain ⟨ps, h1, h2⟩ : ∃ ps : List (Int × Int), ps.Perm (prs of) ∧ ps.Pairwise lexLe := by
    refine ⟨(prs of).mergeSort (fun a b => decide (a.1 < b.1 ∨ (a.1 = b.1 ∧ a.2 ≤ b.2))), List.mergeSort_perm _ _, ?_⟩
    have := List.pairwise_mergeSort (le := fun a b : Int × Int => decide (a.1 < b.1 ∨ (a.1 = b.1 ∧ a.2 ≤ b.2))) (fun a b c h1 h2 => by simp at *; omega) (fun a b => by simp; omega) (prs of)
    exact this.imp fun h => of_decide_eq_true h
  refine ⟨(krs p q (hr of) (ps.map (·.2))).mergeSort (fun a b => decide (a ≤ b)), ps, h1, h2, List.mergeSort_perm _ _, ?_⟩
  have := List.pairwise_mergeSort (le := fun a b : Int => decide (a ≤ b)) (fun a b c h1 h2 => by simp at *; omega) (fun a b => by simp; omega) (krs p q (hr of) (ps.map (·.2)))
  exact this.imp fun h => of_decide_eq_true h
theorem t__law_cheapest : ∀ ds M Q, sp_cheapest_reading ds M Q → G3.wpSs (b__law_cheapest sp__law_edge_places sp__law_joined_parts sp__law_tells_all) (rets Q) (st3 n__law_cheapest.length ds) M := by
  rintro ds M Q ⟨p, q, of, rfl, hp, hq, p1, q1, hl, k⟩
  simp only [n__law_cheapest, r2__law_cheapest, r1__law_cheapest, b__law_cheapest, encM, G3.wpSs, G3.wpS, G3.wpE, G3.wpEL, G3.wpO, G3.wpTO, G3.wpT, G3.wpAnd, G3.wpOr, G3.wpAndT, G3.wpOrT, G3.wpI, G3.wpG, G3.wpGs, G3.wipe3, G3.GV.d, G3.st3, G3.bi3, G3.me3, G3.Me.ty, G3.rets, List.replicate, G3.wl, Nat.reduceAdd, Nat.reduceSub, reduceIte]
  refine lc_mp _ of (fun o => .int o.1) (fun _ _ => trivial) (fun a ha M' sb Qe h => ?_) (by rw [sline]; omega) ?_
  · simp only [G3.wpSs, G3.wpS, G3.wpE, G3.wpEL, G3.wpO, G3.wpTO, G3.wpT, G3.wpAnd, G3.wpOr, G3.wpAndT, G3.wpOrT, G3.wpI, G3.wpG, G3.wpGs, G3.wipe3, G3.GV.d, G3.st3, G3.bi3, G3.me3, G3.Me.ty, G3.rets, List.replicate, G3.wl, Nat.reduceAdd, Nat.reduceSub, reduceIte]; exact h _ .refl
  rw [show (of.map fun o => D.int o.1) = (of.map (·.1)).map .int by rw [List.map_map]; rfl]
  intro a0 ha0
  refine ⟨p, q, a0, _, rfl, put_same, by rw [List.length_map]; exact hl, hp, hq, p1, q1, ?_⟩
  have sb0 : Sub M (put M a0 (.lst ((of.map (·.1)).map .int))) := Sub.new ha0
  generalize put M a0 (.lst ((of.map (·.1)).map .int)) = M0 at *
  unfold bestD at k
  simp only [G3.wpSs, G3.wpS, G3.wpE, G3.wpEL, G3.wpO, G3.wpTO, G3.wpT, G3.wpAnd, G3.wpOr, G3.wpAndT, G3.wpOrT, G3.wpI, G3.wpG, G3.wpGs, G3.wipe3, G3.GV.d, G3.st3, G3.bi3, G3.me3, G3.Me.ty, G3.rets, List.replicate, G3.wl, Nat.reduceAdd, Nat.reduceSub, reduceIte]
  have am := fun (x : Int) (h0 : 0 ≤ x) (h1 : x < of.length) => at_of (of := of) h0 h1
  by_cases c : parts p q (of.map (·.1)) = Nat.gcd p q
  · simp only [if_pos c] at k
    rw [decide_eq_true c, if_neg (by simp)]
    intro t ht
    have big : ∀ n : Nat, n ≤ 10000 → (-2 ^ 62 ≤ (n : Int)) ∧ (n : Int) < 2 ^ 62 := fun n hn => ⟨by omega, by omega⟩
    refine ⟨(big _ (by omega)).1, (big _ (by omega)).2, ?_⟩
    rw [Int.toNat_natCast, rg_map]
    refine lc_mp (fun k : Nat => D.int (k : Int)) (List.range of.length) (fun j => kpD (co of j, j)) (fun _ _ => trivial) (fun a ha M' sb Qe h => ?_) (by rw [sline, List.length_range]; omega) ?_
    · have ha := List.mem_range.mp ha
      simp only [am a (by omega) (by omega), G3.wpSs, G3.wpS, G3.wpE, G3.wpEL, G3.wpO, G3.wpTO, G3.wpT, G3.wpAnd, G3.wpOr, G3.wpAndT, G3.wpOrT, G3.wpI, G3.wpG, G3.wpGs, G3.wipe3, G3.GV.d, G3.st3, G3.bi3, G3.me3, G3.Me.ty, G3.rets, List.replicate, G3.wl, Nat.reduceAdd, Nat.reduceSub, reduceIte]
      exact h _ .refl
    rw [show ((List.range of.length).map fun j : Nat => kpD (co of j, (j : Int))) = (prs of).map kpD by unfold prs; rw [List.map_map]; rfl]
    intro b hb
    simp only [listAt_ref put_same, prs_map, G3.wpSs, G3.wpS, G3.wpE, G3.wpEL, G3.wpO, G3.wpTO, G3.wpT, G3.wpAnd, G3.wpOr, G3.wpAndT, G3.wpOrT, G3.wpI, G3.wpG, G3.wpGs, G3.wipe3, G3.GV.d, G3.st3, G3.bi3, G3.me3, G3.Me.ty, G3.rets, List.replicate, G3.wl, Nat.reduceAdd, Nat.reduceSub, reduceIte]
    intro ps hps hs c1 hc1
    have et : put (put (put M0 t (.lst [])) b (.lst ((prs of).map kpD))) c1 (.lst (ps.map kpD)) t = some (.lst (([] : List Int).map .int)) := put_keep (put_keep put_same hb) hc1
    have ec : put (put (put M0 t (.lst [])) b (.lst ((prs of).map kpD))) c1 (.lst (ps.map kpD)) c1 = some (.lst (ps.map kpD)) := put_same
    have sb : Sub M (put (put (put M0 t (.lst [])) b (.lst ((prs of).map kpD))) c1 (.lst (ps.map kpD))) := sb0.trans (((Sub.new ht).trans (Sub.new hb)).trans (Sub.new hc1))
    have htc : t ≠ c1 := fun z => by
      subst z; rw [put_ne (fun z => by subst z; rw [put_same] at hb; cases hb), put_same] at hc1; cases hc1
    have ht0 := Sub.none sb0 ht
    generalize put (put (put M0 t (.lst [])) b (.lst ((prs of).map kpD))) c1 (.lst (ps.map kpD)) = M1 at *
    rw [seqI_ref ec]
    have pl : ps.length = of.length := by rw [hps.length_eq]; unfold prs; rw [List.length_map, List.length_range]
    refine forW_rest kpD ps (fun r τ M' => ∃ (T : List Int) (s4 s5 s6 s7 s8 : Option D), τ = [some (.int p), some (.int q), some (.tup (of.map fun m => .tup [.int m.1, .int m.2])), some (.ref t), s4, s5, s6, s7, s8, none, none] ∧
      Sub M M' ∧ M' t = some (.lst (T.map .int)) ∧ M' c1 = some (.lst (ps.map kpD)) ∧ (r.map (·.2)).foldl (kr p q (hr of)) T = krs p q (hr of) (ps.map (·.2)) ∧ inR of T ∧ T.length + r.length ≤ ps.length)
      ⟨[], none, none, none, none, none, rfl, sb, et, ec, rfl, fun k hk => by simp at hk, by simp⟩ (fun r τ M' hP => ?_) (fun a r τ M' ha hP => ?_) (fun τ M' hP => ?_)
    · obtain ⟨T, s4, s5, s6, s7, s8, rfl, sb', et', ec', _⟩ := hP; exact ec'
    · obtain ⟨T, s4, s5, s6, s7, s8, rfl, sb', et', ec', e, hT, hlen⟩ := hP
      have hk : 0 ≤ a.2 ∧ a.2 < of.length := (ord_mem hps a.2).mp (List.mem_map_of_mem ha)
      rw [List.length_cons] at hlen
      simp only [kpD, seqI_ref et', G3.wpSs, G3.wpS, G3.wpE, G3.wpEL, G3.wpO, G3.wpTO, G3.wpT, G3.wpAnd, G3.wpOr, G3.wpAndT, G3.wpOrT, G3.wpI, G3.wpG, G3.wpGs, G3.wipe3, G3.GV.d, G3.st3, G3.bi3, G3.me3, G3.Me.ty, G3.rets, List.replicate, G3.wl, Nat.reduceAdd, Nat.reduceSub, reduceIte]
      refine lc_mp D.int T (fun x => .int (hr of x)) (fun M' sb => sb _ _ et') (fun x hx M' sb Qe h => ?_) (by rw [sline]; omega) ?_
      · obtain ⟨h0, h1⟩ := hT x hx
        simp only [am x h0 h1, G3.wpSs, G3.wpS, G3.wpE, G3.wpEL, G3.wpO, G3.wpTO, G3.wpT, G3.wpAnd, G3.wpOr, G3.wpAndT, G3.wpOrT, G3.wpI, G3.wpG, G3.wpGs, G3.wipe3, G3.GV.d, G3.st3, G3.bi3, G3.me3, G3.Me.ty, G3.rets, List.replicate, G3.wl, Nat.reduceAdd, Nat.reduceSub, reduceIte]
        exact h _ .refl
      rw [show (T.map fun x => D.int (hr of x)) = (T.map (hr of)).map .int by rw [List.map_map]; rfl]
      intro w hw
      refine ⟨p, q, w, _, rfl, put_same, by rw [List.length_map]; omega, hp, hq, p1, q1, fun g M4 sb4 eg => ?_⟩
      have et4 := sb4 _ _ (put_keep (o' := .lst ((T.map (hr of)).map D.int)) et' hw)
      have ec4 := sb4 _ _ (put_keep (o' := .lst ((T.map (hr of)).map D.int)) ec' hw)
      have sb5 := (sb'.trans (Sub.new (o := .lst ((T.map (hr of)).map D.int)) hw)).trans sb4
      simp only [am a.2 hk.1 hk.2, G3.wpSs, G3.wpS, G3.wpE, G3.wpEL, G3.wpO, G3.wpTO, G3.wpT, G3.wpAnd, G3.wpOr, G3.wpAndT, G3.wpOrT, G3.wpI, G3.wpG, G3.wpGs, G3.wipe3, G3.GV.d, G3.st3, G3.bi3, G3.me3, G3.Me.ty, G3.rets, List.replicate, G3.wl, Nat.reduceAdd, Nat.reduceSub, reduceIte]
      refine ⟨p, q, hr of a.2, rfl, hp, hq, ?_⟩
      obtain ⟨a0, a1⟩ := rA (q := q) hp (hr of a.2)
      obtain ⟨b0, b1⟩ := rB (p := p) hq (hr of a.2)
      have len := LB_len (hs := T.map (hr of)) hp hq
      simp only [G3.wpSs, G3.wpS, G3.wpE, G3.wpEL, G3.wpO, G3.wpTO, G3.wpT, G3.wpAnd, G3.wpOr, G3.wpAndT, G3.wpOrT, G3.wpI, G3.wpG, G3.wpGs, G3.wipe3, G3.GV.d, G3.st3, G3.bi3, G3.me3, G3.Me.ty, G3.rets, List.replicate, G3.wl, Nat.reduceAdd, Nat.reduceSub, reduceIte]
      rw [ix3_intsL eg a0 (by omega), ix3_intsL eg b0 (by omega), G3.ne_int, isB3_bl]
      rw [List.map_cons, List.foldl_cons] at e
      by_cases c : sm p q (T.map (hr of)) (hr of a.2)
      · have c' : getZ (LB p q (T.map (hr of))) (hr of a.2 % p) = getZ (LB p q (T.map (hr of))) (p + hr of a.2 % q) := c
        rw [decide_eq_true c', if_neg (by simp)]
        unfold kr at e
        rw [if_pos c] at e
        exact wk.of ⟨T, _, _, _, _, _, rfl, sb5, et4, ec4, e, hT, by omega⟩
      · have c' : ¬ getZ (LB p q (T.map (hr of))) (hr of a.2 % p) = getZ (LB p q (T.map (hr of))) (p + hr of a.2 % q) := c
        rw [decide_eq_false c', if_pos (by simp)]
        unfold kr at e
        rw [if_neg c] at e
        simp only [isTyM_ref et4, refL_ref et4, G3.wpSs, G3.wpS, G3.wpE, G3.wpEL, G3.wpO, G3.wpTO, G3.wpT, G3.wpAnd, G3.wpOr, G3.wpAndT, G3.wpOrT, G3.wpI, G3.wpG, G3.wpGs, G3.wipe3, G3.GV.d, G3.st3, G3.bi3, G3.me3, G3.Me.ty, G3.rets, List.replicate, G3.wl, Nat.reduceAdd, Nat.reduceSub, reduceIte]
        refine ⟨by rw [sline]; omega, wk.of ⟨T ++ [a.2], _, _, _, _, _, rfl, sb5.put_free ht0, ?_, ?_, e, fun x hx => ?_, by rw [List.length_append, List.length_singleton]; omega⟩⟩
        · rw [put_same, List.map_append]; rfl
        · rw [put_ne htc.symm]; exact ec4
        · rcases List.mem_append.mp hx with z | z
          · exact hT x z
          · rw [List.mem_singleton] at z; subst z; exact hk
    · obtain ⟨T, s4, s5, s6, s7, s8, rfl, sb', et', ec', e, hT, hlen⟩ := hP
      rw [List.map_nil, List.foldl_nil] at e
      subst e
      simp only [listAt_ref et', ints_map, G3.wpSs, G3.wpS, G3.wpE, G3.wpEL, G3.wpO, G3.wpTO, G3.wpT, G3.wpAnd, G3.wpOr, G3.wpAndT, G3.wpOrT, G3.wpI, G3.wpG, G3.wpGs, G3.wipe3, G3.GV.d, G3.st3, G3.bi3, G3.me3, G3.Me.ty, G3.rets, List.replicate, G3.wl, Nat.reduceAdd, Nat.reduceSub, reduceIte]
      intro T hT hs' d hd
      simp only [seqAt_ref put_same, G3.wpSs, G3.wpS, G3.wpE, G3.wpEL, G3.wpO, G3.wpTO, G3.wpT, G3.wpAnd, G3.wpOr, G3.wpAndT, G3.wpOrT, G3.wpI, G3.wpG, G3.wpGs, G3.wipe3, G3.GV.d, G3.st3, G3.bi3, G3.me3, G3.Me.ty, G3.rets, List.replicate, G3.wl, Nat.reduceAdd, Nat.reduceSub, reduceIte]
      exact wk_sub (sb'.trans (Sub.new hd)) (k T ⟨ps, hps, hs, hT, hs'⟩)
  · simp only [if_neg c] at k
    rw [decide_eq_false c, if_pos (by simp)]
    obtain ⟨T, hT⟩ := best_ex p q of
    exact wk_sub sb0 (k T hT)
end K83
set_option Elab.async false
set_option linter.all false
set_option maxRecDepth 100000
set_option maxHeartbeats 4000000
/-! draws -/
namespace K83
open G3 L2 G3w G5
def sp__law_shuffled : Sp3 := fun ds M Q => ∃ (a p : Addr) (xs : List Int) (l : List Int), ds = [.ref a, .ref p] ∧ M a = some (.lst (xs.map .int)) ∧ M p = some (.lst (l.map .int)) ∧ a ≠ p ∧ l.length ≤ 1000 ∧
  ∀ (l' : List Int) t M', l'.Perm l → M t = none → Go M a M' → M' t = some (.lst (l'.map .int)) → Q (.ref t) M'
theorem erase_perm : ∀ {l : List Int} {i : Nat} (hi : i < l.length), (l[i] :: l.eraseIdx i).Perm l
  | a :: l, 0, _ => List.Perm.refl _
  | a :: l, i + 1, hi => by
    have ih := erase_perm (l := l) (i := i) (by simpa using hi)
    show ((l[i]'(by simpa using hi)) :: a :: l.eraseIdx i).Perm (a :: l)
    exact (List.Perm.swap _ _ _).trans (List.Perm.cons a ih)
theorem erase_map : ∀ {l : List Int} {i : Nat}, (l.map D.int).eraseIdx i = (l.eraseIdx i).map D.int
  | [], _ => rfl
  | _ :: _, 0 => rfl
  | a :: l, i + 1 => by
    show D.int a :: (l.map D.int).eraseIdx i = D.int a :: (l.eraseIdx i).map D.int
    rw [erase_map]
theorem perm_step {l told left : List Int} {i : Nat} (h : (told ++ left).Perm l) (hi : i < left.length) : ((told ++ [left[i]]) ++ left.eraseIdx i).Perm l := by
  refine List.Perm.trans ?_ h
  rw [List.append_assoc]
  refine List.Perm.append_left told ?_
  exact erase_perm hi
theorem t__law_shuffled : ∀ ds M Q, sp__law_shuffled ds M Q → G3.wpSs (b__law_shuffled sp__law_take) (rets Q) (st3 n__law_shuffled.length ds) M := by
  rintro ds M Q ⟨a, p, xs, l, rfl, ea, ep, hap, hl, q⟩
  simp only [n__law_shuffled, r1__law_shuffled, b__law_shuffled, list3_ref ep, G3.wpSs, G3.wpS, G3.wpE, G3.wpEL, G3.wpO, G3.wpTO, G3.wpT, G3.wpAnd, G3.wpOr, G3.wpAndT, G3.wpOrT, G3.wpI, G3.wpG, G3.wpGs, G3.wipe3, G3.GV.d, G3.st3, G3.bi3, G3.me3, G3.Me.ty, G3.rets, List.replicate, G3.wl, Nat.reduceAdd, Nat.reduceSub, reduceIte]
  intro f hf
  have hfa := Go.ne ea hf
  have g1 := (Go.refl ea).put_new (o := .lst (l.map .int)) hf hfa
  have ef := put_same (M := M) (a := f) (o := .lst (l.map D.int))
  generalize put M f _ = M1 at *
  intro t ht
  obtain ⟨ht0, hta⟩ := g1.fresh ht
  have hft : f ≠ t := fun z => by rw [z, ht] at ef; cases ef
  have g2 := g1.put_new (o := .lst []) ht0 hta
  have ef2 := put_keep (o' := .lst []) ef ht
  have et2 := put_same (M := M1) (a := t) (o := .lst [])
  generalize put M1 t _ = M2 at *
  simp only [len3_ref ef2, G3.wpSs, G3.wpS, G3.wpE, G3.wpEL, G3.wpO, G3.wpTO, G3.wpT, G3.wpAnd, G3.wpOr, G3.wpAndT, G3.wpOrT, G3.wpI, G3.wpG, G3.wpGs, G3.wipe3, G3.GV.d, G3.st3, G3.bi3, G3.me3, G3.Me.ty, G3.rets, List.replicate, G3.wl, Nat.reduceAdd, Nat.reduceSub, reduceIte]
  refine ⟨by omega, by omega, fun i τ M' => ∃ (told left : List Int) (s4 : Option D), τ = [some (.ref a), some (.ref p), some (.ref f), some (.ref t), s4] ∧ Go M a M' ∧ M' f = some (.lst (left.map .int)) ∧ M' t = some (.lst (told.map .int)) ∧ (told ++ left).Perm l ∧ told.length = i, ⟨[], l, _, rfl, g2, ef2, et2, by simp, rfl⟩, ?_⟩
  rintro i τ M' ⟨told, left, s4, rfl, g, ef, et, hp, htl⟩ hi
  rw [rgD_length] at hi ⊢
  rw [Int.toNat_natCast] at hi ⊢
  have hpl := hp.length_eq
  rw [List.length_append] at hpl
  refine ⟨trivial, fun d hd => ?_, fun ei => ?_⟩
  · obtain ⟨hi2, rfl⟩ := rgD_get hd
    simp only [isTyM_ref et, isTyM_ref ef, len3_ref ef, G3.wpSs, G3.wpS, G3.wpE, G3.wpEL, G3.wpO, G3.wpTO, G3.wpT, G3.wpAnd, G3.wpOr, G3.wpAndT, G3.wpOrT, G3.wpI, G3.wpG, G3.wpGs, G3.wipe3, G3.GV.d, G3.st3, G3.bi3, G3.me3, G3.Me.ty, G3.rets, List.replicate, G3.wl, Nat.reduceAdd, Nat.reduceSub, reduceIte]
    obtain ⟨xs1, e1⟩ := g.at
    refine take_step e1 (by omega) fun r xs2 r0 r1 => ?_
    obtain ⟨r, rfl⟩ := Int.eq_ofNat_of_zero_le r0
    have hr : r < left.length := by omega
    have g3 := g.put xs2
    have ef3 : put M' a (.lst (xs2.map .int)) f = some (.lst (left.map .int)) := by rw [put_ne hfa]; exact ef
    have et3 : put M' a (.lst (xs2.map .int)) t = some (.lst (told.map .int)) := by rw [put_ne hta]; exact et
    generalize put M' a _ = M3 at *
    simp only [refL_ref ef3, G3.wpSs, G3.wpS, G3.wpE, G3.wpEL, G3.wpO, G3.wpTO, G3.wpT, G3.wpAnd, G3.wpOr, G3.wpAndT, G3.wpOrT, G3.wpI, G3.wpG, G3.wpGs, G3.wipe3, G3.GV.d, G3.st3, G3.bi3, G3.me3, G3.Me.ty, G3.rets, List.replicate, G3.wl, Nat.reduceAdd, Nat.reduceSub, reduceIte]
    rw [ixN_in (by omega) (by omega)]
    simp only [Int.toNat_natCast, G3.wpSs, G3.wpS, G3.wpE, G3.wpEL, G3.wpO, G3.wpTO, G3.wpT, G3.wpAnd, G3.wpOr, G3.wpAndT, G3.wpOrT, G3.wpI, G3.wpG, G3.wpGs, G3.wipe3, G3.GV.d, G3.st3, G3.bi3, G3.me3, G3.Me.ty, G3.rets, List.replicate, G3.wl, Nat.reduceAdd, Nat.reduceSub, reduceIte]
    rw [List.getElem?_map, List.getElem?_eq_getElem hr]
    simp only [Option.map_some, G3.wpSs, G3.wpS, G3.wpE, G3.wpEL, G3.wpO, G3.wpTO, G3.wpT, G3.wpAnd, G3.wpOr, G3.wpAndT, G3.wpOrT, G3.wpI, G3.wpG, G3.wpGs, G3.wipe3, G3.GV.d, G3.st3, G3.bi3, G3.me3, G3.Me.ty, G3.rets, List.replicate, G3.wl, Nat.reduceAdd, Nat.reduceSub, reduceIte]
    rw [refL_ref (show put M3 f _ t = some (.lst (told.map .int)) by rw [put_ne hft.symm]; exact et3)]
    refine ⟨by rw [sline]; simp; omega, .of ⟨told ++ [left[r]], left.eraseIdx r, _, rfl, (g3.put_new hf hfa).put_new ht0 hta, ?_, ?_, perm_step hp hr, by rw [List.length_append, htl]; rfl⟩⟩
    · rw [put_ne hft, put_same, erase_map]
    · rw [put_same, List.map_append]; rfl
  · have h0 : left = [] := List.eq_nil_of_length_eq_zero (by omega)
    subst h0
    rw [List.append_nil] at hp
    exact .of (.of (q told t M' hp ht0 g et))
/-- of a list or of a tuple -/
def sp_pkB : Sp3 := fun ds M Q => ∃ (a : Addr) (xs : List Int) (row : D) (l : List D), ds = [.ref a, row] ∧ M a = some (.lst (xs.map .int)) ∧ ((∃ p, row = .ref p ∧ p ≠ a ∧ M p = some (.lst l)) ∨ row = .tup l) ∧ l ≠ [] ∧ ∀ (r : D) (xs' : List Int), r ∈ l → Q r (put M a (.lst (xs'.map .int)))
theorem t__law_pick : ∀ ds M Q, sp_pkB ds M Q → G3.wpSs (b__law_pick sp__law_take) (rets Q) (st3 n__law_pick.length ds) M := by
  rintro ds M Q ⟨a, xs, row, l, rfl, e, h, hl, q⟩
  have hlp := List.length_pos_iff.mpr hl
  rcases h with ⟨p, rfl, hne, ep⟩ | rfl
  · simp only [n__law_pick, b__law_pick, len3_ref ep, G3.wpSs, G3.wpS, G3.wpE, G3.wpEL, G3.wpO, G3.wpTO, G3.wpT, G3.wpAnd, G3.wpOr, G3.wpAndT, G3.wpOrT, G3.wpI, G3.wpG, G3.wpGs, G3.wipe3, G3.GV.d, G3.st3, G3.bi3, G3.me3, G3.Me.ty, G3.rets, List.replicate, G3.wl, Nat.reduceAdd, Nat.reduceSub, reduceIte]
    refine ⟨a, xs, _, rfl, e, by omega, fun r xs' h0 h1 => ?_⟩
    simp only []
    rw [ix3_ref (by rw [put_ne hne]; exact ep), atI_some h0 h1, some3_some]
    exact .of (q _ _ (List.getElem_mem _))
  · simp only [n__law_pick, b__law_pick, G3.wpSs, G3.wpS, G3.wpE, G3.wpEL, G3.wpO, G3.wpTO, G3.wpT, G3.wpAnd, G3.wpOr, G3.wpAndT, G3.wpOrT, G3.wpI, G3.wpG, G3.wpGs, G3.wipe3, G3.GV.d, G3.st3, G3.bi3, G3.me3, G3.Me.ty, G3.rets, List.replicate, G3.wl, Nat.reduceAdd, Nat.reduceSub, reduceIte]
    refine ⟨a, xs, _, rfl, e, by omega, fun r xs' h0 h1 => ?_⟩
    simp only []
    rw [ix3_tup, atI_some h0 h1, some3_some]
    exact .of (q _ _ (List.getElem_mem _))
theorem t__law_tide_hour : ∀ ds M Q, sp__law_tide_hour ds M Q → G3.wpSs (b__law_tide_hour sp__law_take sp_pkB) (rets Q) (st3 n__law_tide_hour.length ds) M := by
  rintro ds M Q ⟨a, xs, few, rfl, e, hf, q⟩
  simp only [n__law_tide_hour, r1__law_tide_hour, b__law_tide_hour, G3.wpSs, G3.wpS, G3.wpE, G3.wpEL, G3.wpO, G3.wpTO, G3.wpT, G3.wpAnd, G3.wpOr, G3.wpAndT, G3.wpOrT, G3.wpI, G3.wpG, G3.wpGs, G3.wipe3, G3.GV.d, G3.st3, G3.bi3, G3.me3, G3.Me.ty, G3.rets, List.replicate, G3.wl, Nat.reduceAdd, Nat.reduceSub, reduceIte]
  refine take_step e (by decide) fun r xs2 h0 h1 => ?_
  simp only [G3.eq_int, isB3_bl, decide_eq_true_eq]
  split
  · refine ⟨by unfold CPow; decide, by unfold CPow; decide, by unfold CPow; decide, fun p hp => ?_⟩
    have hpa : a ≠ p := ne_of_put (o := .lst (xs2.map .int)) (o' := .lst []) put_same hp
    refine ⟨a, xs2, .ref p, _, rfl, ?_, .inl ⟨p, rfl, hpa.symm, put_same⟩, by simp, fun r3 xs3 hr3 => ?_⟩
    · rw [put_ne hpa]; exact put_same
    · refine take_step (xs := xs3) put_same (by decide) fun r4 xs4 h4 h5 => ?_
      simp only [put_as, G3.wpSs, G3.wpS, G3.wpE, G3.wpEL, G3.wpO, G3.wpTO, G3.wpT, G3.wpAnd, G3.wpOr, G3.wpAndT, G3.wpOrT, G3.wpI, G3.wpG, G3.wpGs, G3.wipe3, G3.GV.d, G3.st3, G3.bi3, G3.me3, G3.Me.ty, G3.rets, List.replicate, G3.wl, Nat.reduceAdd, Nat.reduceSub, reduceIte]
      have hz : ∃ z, r3 = .int z ∧ 0 ≤ z := by
        simp only [List.mem_cons, List.not_mem_nil, or_false] at hr3
        rcases hr3 with rfl | rfl | rfl <;> exact ⟨_, rfl, by decide⟩
      obtain ⟨z, rfl, hz⟩ := hz
      simp only [G3.wpSs, G3.wpS, G3.wpE, G3.wpEL, G3.wpO, G3.wpTO, G3.wpT, G3.wpAnd, G3.wpOr, G3.wpAndT, G3.wpOrT, G3.wpI, G3.wpG, G3.wpGs, G3.wipe3, G3.GV.d, G3.st3, G3.bi3, G3.me3, G3.Me.ty, G3.rets, List.replicate, G3.wl, Nat.reduceAdd, Nat.reduceSub, reduceIte]
      obtain ⟨hp1, hp2⟩ := put_free hp
      rw [put_comm (Ne.symm hpa), put_as]
      refine wk_sub (M' := put (put M a _) p _) ?_ (q _ xs4 (by omega))
      exact Sub.new (by rw [put_ne (Ne.symm hpa)]; exact hp1)
  · refine take_step put_same hf fun r2 xs2 h2 h3 => ?_
    simp only [put_as, G3.wpSs, G3.wpS, G3.wpE, G3.wpEL, G3.wpO, G3.wpTO, G3.wpT, G3.wpAnd, G3.wpOr, G3.wpAndT, G3.wpOrT, G3.wpI, G3.wpG, G3.wpGs, G3.wipe3, G3.GV.d, G3.st3, G3.bi3, G3.me3, G3.Me.ty, G3.rets, List.replicate, G3.wl, Nat.reduceAdd, Nat.reduceSub, reduceIte]
    exact wk.of (q _ _ (by omega))
def sp__law_cost : Sp3 := fun ds M Q => ∃ (a : Addr) (xs : List Int), ds = [.ref a] ∧ M a = some (.lst (xs.map .int)) ∧ ∀ (r : Int) (xs' : List Int), 0 ≤ r → Q (.int r) (put M a (.lst (xs'.map .int)))
theorem t__law_cost : ∀ ds M Q, sp__law_cost ds M Q → G3.wpSs (b__law_cost sp__law_take sp_pkB) (rets Q) (st3 n__law_cost.length ds) M := by
  rintro ds M Q ⟨a, xs, rfl, e, q⟩
  simp only [n__law_cost, b__law_cost, G3.wpSs, G3.wpS, G3.wpE, G3.wpEL, G3.wpO, G3.wpTO, G3.wpT, G3.wpAnd, G3.wpOr, G3.wpAndT, G3.wpOrT, G3.wpI, G3.wpG, G3.wpGs, G3.wipe3, G3.GV.d, G3.st3, G3.bi3, G3.me3, G3.Me.ty, G3.rets, List.replicate, G3.wl, Nat.reduceAdd, Nat.reduceSub, reduceIte]
  refine take_step e (by decide) fun r xs2 h0 h1 => ?_
  refine ⟨by unfold CPow; decide, fun p hp => ?_⟩
  have hpa : a ≠ p := ne_of_put (o := .lst (xs2.map .int)) (o' := .lst []) put_same hp
  refine ⟨a, xs2, .ref p, _, rfl, ?_, .inl ⟨p, rfl, hpa.symm, put_same⟩, by simp, fun r3 xs3 hr3 => ?_⟩
  · rw [put_ne hpa]; exact put_same
  · have hz : ∃ z, r3 = .int z ∧ 0 ≤ z := by
      simp only [List.mem_cons, List.not_mem_nil, or_false] at hr3
      rcases hr3 with rfl | rfl | rfl | rfl | rfl | rfl | rfl | rfl <;> exact ⟨_, rfl, by decide⟩
    obtain ⟨z, rfl, hz⟩ := hz
    simp only [G3.wpSs, G3.wpS, G3.wpE, G3.wpEL, G3.wpO, G3.wpTO, G3.wpT, G3.wpAnd, G3.wpOr, G3.wpAndT, G3.wpOrT, G3.wpI, G3.wpG, G3.wpGs, G3.wipe3, G3.GV.d, G3.st3, G3.bi3, G3.me3, G3.Me.ty, G3.rets, List.replicate, G3.wl, Nat.reduceAdd, Nat.reduceSub, reduceIte]
    refine ⟨.inl ⟨by omega, by omega⟩, ?_⟩
    obtain ⟨hp1, hp2⟩ := put_free hp
    rw [put_comm (Ne.symm hpa), put_as]
    refine wk_sub (M' := put (put M a _) p _) ?_ (q _ xs3 (Int.mul_nonneg h0 hz))
    exact Sub.new (by rw [put_ne (Ne.symm hpa)]; exact hp1)
end K83
set_option Elab.async false
set_option linter.all false
set_option maxRecDepth 100000
set_option maxHeartbeats 4000000
/-! offers judged -/
namespace K83
open G3 L2 G3w G5
variable {p q : Nat} {hs L : List Int}
theorem same_tup {M : Mp} {k : Nat} {l : List D} (hl : l.length ≤ 1000000) (h : ∀ x ∈ l, sameD M k x x) : sameD M (k + 1) (.tup l) (.tup l) :=
  .inr (.inl ⟨l, l, rfl, rfl, rfl, hl, fun i x y hx hy => by rw [hx] at hy; cases hy; exact h x (List.mem_of_getElem? hx)⟩)
theorem same_ints {M : Mp} {k : Nat} {T : List Int} (hl : T.length ≤ 1000000) : sameD M (k + 2) (.tup (T.map .int)) (.tup (T.map .int)) := same_tup (by rw [List.length_map]; exact hl) fun x hx => by
  obtain ⟨z, _, rfl⟩ := List.mem_map.mp hx
  exact .inl ⟨trivial, rfl⟩
theorem same_opt {M : Mp} {k : Nat} : ∀ o : Option Int, sameD M (k + 1) (optD o) (optD o)
  | none => .inl ⟨trivial, rfl⟩
  | some _ => .inl ⟨trivial, rfl⟩
theorem inF_ints {k : Int} : ∀ {T : List Int}, inF (.int k) (T.map .int) = decide (k ∈ T)
  | [] => rfl
  | x :: T => by
    have ih := inF_ints (k := k) (T := T)
    unfold inF at ih ⊢
    rw [List.map_cons, List.any_cons, ih]
    show (decide (x = k) || _) = _
    by_cases c : x = k
    · subst c; simp
    · have c' : ¬ k = x := fun z => c z.symm
      simp [c, c']
theorem flat_ints {T : List Int} : (T.map D.int).all flatD = true := by
  rw [List.all_eq_true]
  intro x hx
  obtain ⟨z, _, rfl⟩ := List.mem_map.mp hx
  rfl
/-- [b for b in l if a draw says so] -/
theorem lc_keep {β : Type} (enc : β → D) (l : List β) {a : Addr} {xs0 : List Int} {keep : Mp → Prop} {tn : Tn} {vs : List Nat} {tt : TT3} {te : TE3} {τ : S3} {M1 : Mp} {Q : K3} (e : M1 a = some (.lst (xs0.map .int)))
    (hk : ∀ M : Mp, (∀ c o, c ≠ a → M1 c = some o → M c = some o) → keep M)
    (hf : ∀ b ∈ l, ∀ (xs : List Int) (M : Mp), M a = some (.lst (xs.map .int)) → (∀ c o, c ≠ a → M1 c = some o → M c = some o) → ∀ (Qe : K3) (Qn : Mp → Prop), (∀ xs' : List Int, Qe (enc b) (put M a (.lst (xs'.map .int)))) → (∀ xs' : List Int, Qn (put M a (.lst (xs'.map .int)))) →
      wpG tn (enc b) M (wipe3 τ vs) fun τ2 => tt τ2 M fun t M3 => if t = true then te τ2 M3 Qe else Qn M3)
    (hn : l.length < PySem.sizeLine)
    (hQ : ∀ (C : List β) (xs : List Int), C.Sublist l → ∀ p, M1 p = none → Q (.ref p) (put (put M1 a (.lst (xs.map .int))) p (.lst (C.map enc)))) : lcW (l.map enc) keep tn vs tt te τ M1 Q := by
  intro p hp
  have hap : a ≠ p := fun z => by subst z; rw [hp] at e; cases e
  have kp : ∀ (xs : List Int) (o : MO) c o', c ≠ a → M1 c = some o' → put (put M1 a (.lst (xs.map .int))) p o c = some o' := fun xs o c o' hc h => by
    rw [put_ne (fun z => by subst z; rw [hp] at h; cases h), put_ne hc]; exact h
  refine ⟨fun i acc M => ∃ (C : List β) (xs : List Int), C.Sublist (l.take i) ∧ acc = C.map enc ∧ M = put (put M1 a (.lst (xs.map .int))) p (.lst acc), ⟨[], xs0, .slnil, rfl, by rw [put_self e]⟩, ?_⟩
  rintro i acc M ⟨C, xs, hC, rfl, rfl⟩ hi
  rw [List.length_map] at hi
  refine ⟨hk _ (kp xs _), put_same, fun d hd => ?_, fun ei => ?_⟩
  · rw [List.getElem?_map] at hd
    cases hz : l[i]? with
    | none => rw [hz] at hd; cases hd
    | some b =>
      rw [hz] at hd; cases hd
      have e1 : l.take (i + 1) = l.take i ++ [b] := by rw [List.take_add_one, hz]; rfl
      have hl := hC.length_le
      rw [List.length_take] at hl
      refine hf b (List.mem_of_getElem? hz) xs _ (by rw [put_ne hap, put_same]) (kp xs _) _ _ (fun xs' => ⟨by first | omega | (rw [List.length_map]; omega), by rw [put_ne (Ne.symm hap), put_same], wk.of ⟨C ++ [b], xs', ?_, by rw [List.map_append]; rfl, ?_⟩⟩) fun xs' => wk.of ⟨C, xs', ?_, rfl, ?_⟩
      · rw [e1]; exact hC.append (List.Sublist.refl _)
      · rw [put_comm (Ne.symm hap), put_put, put_put]
      · rw [e1]; exact hC.trans (List.sublist_append_left _ _)
      · rw [put_comm (Ne.symm hap), put_put]
  · rw [List.length_map] at ei
    subst ei
    rw [List.take_length] at hC
    exact wk.of (hQ C xs hC p hp)
theorem gap_none (hp : 0 < p) (hq : 0 < q) {hs : List Int} (h : gap p q hs = none) (x : Int) (h0 : 0 ≤ x) : sm p q hs x := by
  unfold gap at h
  rw [Option.map_eq_none_iff, List.find?_eq_none] at h
  have l0 := Nat.lcm_pos hp hq
  have e1 := h (x.toNat % Nat.lcm p q) (List.mem_range.mpr (Nat.mod_lt _ l0))
  simp only [Bool.not_eq_true', decide_eq_false_iff_not, Decidable.not_not] at e1
  unfold sm at e1 ⊢
  have m1 : ((x.toNat % Nat.lcm p q : Nat) : Int) % (p : Int) = x % p := by
    rw [← Int.natCast_emod, Nat.mod_mod_of_dvd _ (Nat.dvd_lcm_left p q), Int.natCast_emod, Int.toNat_of_nonneg h0]
  have m2 : ((x.toNat % Nat.lcm p q : Nat) : Int) % (q : Int) = x % q := by
    rw [← Int.natCast_emod, Nat.mod_mod_of_dvd _ (Nat.dvd_lcm_right p q), Int.natCast_emod, Int.toNat_of_nonneg h0]
  rwa [m1, m2] at e1
theorem gap_some {hs : List Int} {x : Int} (h : gap p q hs = some x) : ¬ sm p q hs x := by
  unfold gap at h
  obtain ⟨k, hk, rfl⟩ := Option.map_eq_some_iff.mp h
  have := List.find?_some hk
  simpa using this
/-! the best and its cost -/
theorem best_len (hp : 0 < p) (hq : 0 < q) {of : Of} {T : List Int} (b : Best p q of T) : (T.length : Nat) + parts p q (of.map (·.1)) = p + q := by
  obtain ⟨ps, h1, h2, h3, h4⟩ := b
  rw [h3.length_eq]
  have := krs_len hp hq (hour := hr of) (ps.map (·.2))
  have e : parts p q ((ps.map (·.2)).map (hr of)) = parts p q (of.map (·.1)) := by
    rw [← ord_parts hp hq h1]; unfold parts; rw [krs_LB]
  rw [e] at this; exact this
theorem best_in {of : Of} {T : List Int} (b : Best p q of T) : inR of T ∧ T.Nodup := by
  obtain ⟨ps, h1, h2, h3, h4⟩ := b
  have on : (ps.map (·.2)).Nodup := by
    refine (prs_ord h1).nodup_iff.mpr ?_
    have := List.nodup_range (n := of.length)
    unfold List.Nodup at *
    rw [List.pairwise_map]
    exact this.imp fun h z => h (by omega)
  exact ⟨fun k hk => (ord_mem h1 k).mp (krs_sub.subset (h3.mem_iff.mp hk)), h3.nodup_iff.mpr (on.sublist krs_sub)⟩
theorem best_cost (hp : 0 < p) (hq : 0 < q) {of : Of} {T C : List Int} (b : Best p q of T) (h0 : ∀ k : Int, 0 ≤ k → k < of.length → 0 ≤ co of k) (hC : C.Nodup) (hin : inR of C) (ht : parts p q (C.map (hr of)) ≤ parts p q (of.map (·.1))) :
    (T.map (co of)).sum ≤ (C.map (co of)).sum := by
  obtain ⟨ps, h1, h2, h3, h4⟩ := b
  rw [sum_perm (h3.map (co of))]
  have on : (ps.map (·.2)).Nodup := by
    refine (prs_ord h1).nodup_iff.mpr ?_
    have := List.nodup_range (n := of.length)
    unfold List.Nodup at *
    rw [List.pairwise_map]
    exact this.imp fun h z => h (by omega)
  have e : parts p q ((ps.map (·.2)).map (hr of)) = parts p q (of.map (·.1)) := by
    rw [← ord_parts hp hq h1]; unfold parts; rw [krs_LB]
  refine krs_least hp hq on ?_ (fun k hk => h0 k ((ord_mem h1 k).mp hk).1 ((ord_mem h1 k).mp hk).2) hC (fun k hk => (ord_mem h1 k).mpr (hin k hk)) (by rw [e]; exact ht)
  rw [List.pairwise_map]
  refine List.Pairwise.imp_of_mem ?_ h2
  intro x y hx hy hxy
  have key : ∀ z ∈ ps, co of z.2 = z.1 := fun z hz => by
    have := h1.mem_iff.mp hz
    unfold prs at this
    obtain ⟨j, _, rfl⟩ := List.mem_map.mp this
    rfl
  rw [key x hx, key y hy]
  unfold lexLe at hxy
  omega
end K83
set_option Elab.async false
set_option linter.all false
set_option maxRecDepth 100000
set_option maxHeartbeats 4000000
/-! offers judged, walked -/
namespace K83
open G3 L2 G3w G5
variable {p q : Nat} {hs L : List Int}
def sp__law_offers_are_right : Sp3 := fun ds M Q => ∃ (a : Addr) (xs : List Int) (p q : Nat) (of : Of), ds = [.ref a, .int p, .int q, encM of] ∧ M a = some (.lst (xs.map .int)) ∧ 0 < p ∧ 0 < q ∧ p ≤ 100 ∧ q ≤ 100 ∧ of.length ≤ 100 ∧ (∀ o ∈ of, 0 ≤ o.2) ∧ ∀ M', Go M a M' → Q (.bl true) M'
theorem co_nn {of : Of} (h : ∀ o ∈ of, 0 ≤ o.2) (k : Int) (k0 : 0 ≤ k) (k1 : k < of.length) : 0 ≤ co of k := by
  unfold co
  rw [List.getD_eq_getElem?_getD, List.getElem?_eq_getElem (by omega)]
  exact h _ (List.getElem_mem _)
theorem sum_nn {of : Of} (h : ∀ o ∈ of, 0 ≤ o.2) : ∀ {C : List Int}, inR of C → 0 ≤ (C.map (co of)).sum
  | [], _ => Int.le_refl _
  | k :: C, hC => by
    have ih := sum_nn h (C := C) fun x hx => hC x (List.mem_cons_of_mem _ hx)
    obtain ⟨k0, k1⟩ := hC k List.mem_cons_self
    have := co_nn h k k0 k1
    rw [List.map_cons, List.sum_cons]; omega
/-- the cost that chosen offers are held against -/
def cst (p q : Nat) (of : Of) (T : List Int) : Int := if parts p q (of.map (·.1)) = Nat.gcd p q then (T.map (co of)).sum else 0
theorem t__law_offers_are_right : ∀ ds M Q, sp__law_offers_are_right ds M Q → G3.wpSs (b__law_offers_are_right sp_height_chain sp__law_take (sp__law_same 3) sp_reading_cost sp_does_tell_all sp__law_tells_all sp_pkB sp__law_gcd sp_first_gap sp_cheapest_reading sp_first_gap sp_cheapest_reading) (rets Q) (st3 n__law_offers_are_right.length ds) M := by
  rintro ds M Q ⟨a, xs, p, q, of, rfl, ea, hp, hq, p1, q1, hl, hc, k⟩
  obtain ⟨T, bT⟩ := best_ex p q of
  obtain ⟨inT, ndT⟩ := best_in bT
  have lenT := best_len hp hq bT
  have am := fun (x : Int) (h0 : 0 ≤ x) (h1 : x < of.length) => at_of (of := of) h0 h1
  have pl : parts p q (of.map (·.1)) ≤ p + q := by omega
  have Tl : T.length ≤ 200 := by omega
  simp only [b__law_offers_are_right, r1__law_offers_are_right, n__law_offers_are_right, G3.wpSs, G3.wpS, G3.wpE, G3.wpEL, G3.wpO, G3.wpTO, G3.wpT, G3.wpAnd, G3.wpOr, G3.wpAndT, G3.wpOrT, G3.wpI, G3.wpG, G3.wpGs, G3.wipe3, G3.GV.d, G3.st3, G3.bi3, G3.me3, G3.Me.ty, G3.rets, List.replicate, G3.wl, Nat.reduceAdd, Nat.reduceSub, reduceIte]
  refine ⟨p, q, of, rfl, hp, hq, p1, q1, by omega, fun T' bT' => ?_⟩
  rw [best_uniq bT' bT]
  clear bT' T'
  simp only [G3.wpSs, G3.wpS, G3.wpE, G3.wpEL, G3.wpO, G3.wpTO, G3.wpT, G3.wpAnd, G3.wpOr, G3.wpAndT, G3.wpOrT, G3.wpI, G3.wpG, G3.wpGs, G3.wipe3, G3.GV.d, G3.st3, G3.bi3, G3.me3, G3.Me.ty, G3.rets, List.replicate, G3.wl, Nat.reduceAdd, Nat.reduceSub, reduceIte]
  refine ⟨p, q, of, rfl, hp, hq, p1, q1, by omega, ?_⟩
  simp only [G3.wpSs, G3.wpS, G3.wpE, G3.wpEL, G3.wpO, G3.wpTO, G3.wpT, G3.wpAnd, G3.wpOr, G3.wpAndT, G3.wpOrT, G3.wpI, G3.wpG, G3.wpGs, G3.wipe3, G3.GV.d, G3.st3, G3.bi3, G3.me3, G3.Me.ty, G3.rets, List.replicate, G3.wl, Nat.reduceAdd, Nat.reduceSub, reduceIte]
  refine ⟨p, q, of, rfl, hp, hq, p1, q1, by omega, fun T' bT' => ?_⟩
  rw [best_uniq bT' bT]
  clear bT' T'
  have sameB : ∀ M, sameD M 3 (bestD p q of T) (bestD p q of T) := fun M => by
    unfold bestD
    split
    · exact same_ints (by omega)
    · exact .inl ⟨trivial, rfl⟩
  refine ⟨_, _, rfl, sameB _, ?_⟩
  simp only [G3.wpSs, G3.wpS, G3.wpE, G3.wpEL, G3.wpO, G3.wpTO, G3.wpT, G3.wpAnd, G3.wpOr, G3.wpAndT, G3.wpOrT, G3.wpI, G3.wpG, G3.wpGs, G3.wipe3, G3.GV.d, G3.st3, G3.bi3, G3.me3, G3.Me.ty, G3.rets, List.replicate, G3.wl, Nat.reduceAdd, Nat.reduceSub, reduceIte]
  refine ⟨p, q, of, rfl, hp, hq, p1, q1, by omega, ?_⟩
  refine ⟨_, _, rfl, same_opt _, ?_⟩
  have FIN : ∀ (M' : Mp) (s7 s8 s9 s10 s11 s12 : Option D), Go M a M' → G3.wpSs (r5__law_offers_are_right sp_height_chain sp__law_take (sp__law_same 3) sp_reading_cost sp_does_tell_all sp__law_tells_all sp_pkB sp__law_gcd sp_first_gap sp_cheapest_reading sp_first_gap sp_cheapest_reading)
      (rets Q) [some (.ref a), some (.int p), some (.int q), some (encM of), some (bestD p q of T), some (optD (gap p q (of.map (·.1)))), some (.int (cst p q of T)), s7, s8, s9, s10, s11, s12, none, none] M' := by
    intro M' s7 s8 s9 s10 s11 s12 go
    simp only [r5__law_offers_are_right, r6__law_offers_are_right, encM, G3.wpSs, G3.wpS, G3.wpE, G3.wpEL, G3.wpO, G3.wpTO, G3.wpT, G3.wpAnd, G3.wpOr, G3.wpAndT, G3.wpOrT, G3.wpI, G3.wpG, G3.wpGs, G3.wipe3, G3.GV.d, G3.st3, G3.bi3, G3.me3, G3.Me.ty, G3.rets, List.replicate, G3.wl, Nat.reduceAdd, Nat.reduceSub, reduceIte]
    refine lc_mp _ of (fun o => .tup [.int o.1, .int 0]) (fun _ _ => trivial) (fun o ho M' sb Qe h => ?_) (by rw [sline]; omega) ?_
    · simp only [G3.wpSs, G3.wpS, G3.wpE, G3.wpEL, G3.wpO, G3.wpTO, G3.wpT, G3.wpAnd, G3.wpOr, G3.wpAndT, G3.wpOrT, G3.wpI, G3.wpG, G3.wpGs, G3.wipe3, G3.GV.d, G3.st3, G3.bi3, G3.me3, G3.Me.ty, G3.rets, List.replicate, G3.wl, Nat.reduceAdd, Nat.reduceSub, reduceIte]; exact h _ .refl
    intro b hb
    simp only [seqAt_ref put_same, G3.wpSs, G3.wpS, G3.wpE, G3.wpEL, G3.wpO, G3.wpTO, G3.wpT, G3.wpAnd, G3.wpOr, G3.wpAndT, G3.wpOrT, G3.wpI, G3.wpG, G3.wpGs, G3.wipe3, G3.GV.d, G3.st3, G3.bi3, G3.me3, G3.Me.ty, G3.rets, List.replicate, G3.wl, Nat.reduceAdd, Nat.reduceSub, reduceIte]
    obtain ⟨xs1, e1⟩ := go.at
    have e2 := put_keep (o' := .lst (of.map fun o => .tup [.int o.1, .int 0])) e1 hb
    refine ⟨MulOk_small (by omega) (by omega), take_step e2 (Int.mul_pos (by omega) (by omega)) fun r xs2 r0 r1 => ?_⟩
    have go2 : Go M a (put (put M' b (.lst (of.map fun o => .tup [.int o.1, .int 0]))) a (.lst (xs2.map .int))) := (go.sub (Sub.new hb)).put xs2
    generalize put (put M' b (.lst (of.map fun o => .tup [.int o.1, .int 0]))) a (.lst (xs2.map .int)) = M3 at *
    have em : D.tup (of.map fun o => .tup [.int o.1, .int 0]) = encM (of.map fun o => (o.1, (0 : Int))) := by unfold encM; rw [List.map_map]; rfl
    have eh : (of.map fun o => (o.1, (0 : Int))).map (·.1) = of.map (·.1) := by rw [List.map_map]; rfl
    rw [em]
    cases hg : gap p q (of.map (·.1)) with
    | none =>
      have s := gap_none hp hq hg r r0
      refine ⟨p, q, _, r, rfl, hp, hq, by rw [List.length_map]; omega, fun z => absurd (by rw [eh]; exact s) z, fun _ T' => ?_⟩
      dsimp only
      rw [eq_bl]
      exact .of (k _ go2)
    | some g =>
      have s := gap_some hg
      refine ⟨p, q, _, g, rfl, hp, hq, by rw [List.length_map]; omega, fun _ => ?_, fun z => absurd (by rw [eh] at z; exact z) s⟩
      dsimp only
      rw [eq_bl]
      exact .of (k _ go2)
  have TAIL : ∀ (D_ : Ends3) (M' : Mp) (c : Addr) (C : List Int) (s7 s8 s9 s11 s12 : Option D), Go M a M' → c ≠ a → M' c = some (.lst (C.map .int)) → C.Nodup → inR of C → C.length ≤ 300 →
      (∀ (s11 s12 : Option D) (M'' : Mp), Go M a M'' → D_.nx [some (.ref a), some (.int p), some (.int q), some (encM of), some (bestD p q of T), some (optD (gap p q (of.map (·.1)))), some (.int (cst p q of T)), s7, s8, s9, some (.ref c), s11, s12, none, none] M'') →
      G3.wpSs (r3__law_offers_are_right sp_height_chain sp__law_take (sp__law_same 3) sp_reading_cost sp_does_tell_all sp__law_tells_all sp_pkB sp__law_gcd sp_first_gap sp_cheapest_reading sp_first_gap sp_cheapest_reading)
      D_ [some (.ref a), some (.int p), some (.int q), some (encM of), some (bestD p q of T), some (optD (gap p q (of.map (·.1)))), some (.int (cst p q of T)), s7, s8, s9, some (.ref c), s11, s12, none, none] M' := by
    intro D_ M' c C s7 s8 s9 s11 s12 go hca ec nd hin hlen K
    simp only [r3__law_offers_are_right, r4__law_offers_are_right, seqI_ref ec, G3.wpSs, G3.wpS, G3.wpE, G3.wpEL, G3.wpO, G3.wpTO, G3.wpT, G3.wpAnd, G3.wpOr, G3.wpAndT, G3.wpOrT, G3.wpI, G3.wpG, G3.wpGs, G3.wipe3, G3.GV.d, G3.st3, G3.bi3, G3.me3, G3.Me.ty, G3.rets, List.replicate, G3.wl, Nat.reduceAdd, Nat.reduceSub, reduceIte]
    refine lc_mp D.int C (fun x => .int (hr of x)) (fun M' sb => sb _ _ ec) (fun x hx M' sb Qe h => ?_) (by rw [sline]; omega) ?_
    · obtain ⟨h0, h1⟩ := hin x hx
      simp only [encM, am x h0 h1, G3.wpSs, G3.wpS, G3.wpE, G3.wpEL, G3.wpO, G3.wpTO, G3.wpT, G3.wpAnd, G3.wpOr, G3.wpAndT, G3.wpOrT, G3.wpI, G3.wpG, G3.wpGs, G3.wipe3, G3.GV.d, G3.st3, G3.bi3, G3.me3, G3.Me.ty, G3.rets, List.replicate, G3.wl, Nat.reduceAdd, Nat.reduceSub, reduceIte]
      exact h _ .refl
    rw [show (C.map fun x => D.int (hr of x)) = (C.map (hr of)).map .int by rw [List.map_map]; rfl]
    intro b hb
    refine ⟨p, q, b, _, rfl, put_same, by rw [List.length_map]; omega, hp, hq, p1, q1, ?_⟩
    have ec2 := put_keep (o' := .lst ((C.map (hr of)).map D.int)) ec hb
    have go2 := go.sub (Sub.new (o := .lst ((C.map (hr of)).map D.int)) hb)
    generalize put M' b (.lst ((C.map (hr of)).map D.int)) = M2 at *
    simp only [seqAt_ref ec2, seqI_ref ec2, G3.wpSs, G3.wpS, G3.wpE, G3.wpEL, G3.wpO, G3.wpTO, G3.wpT, G3.wpAnd, G3.wpOr, G3.wpAndT, G3.wpOrT, G3.wpI, G3.wpG, G3.wpGs, G3.wipe3, G3.GV.d, G3.st3, G3.bi3, G3.me3, G3.Me.ty, G3.rets, List.replicate, G3.wl, Nat.reduceAdd, Nat.reduceSub, reduceIte]
    refine ⟨p, q, of, C, rfl, hp, hq, p1, q1, hin, by omega, ?_⟩
    refine ⟨_, _, rfl, .inl ⟨trivial, rfl⟩, ?_⟩
    simp only [G3.wpSs, G3.wpS, G3.wpE, G3.wpEL, G3.wpO, G3.wpTO, G3.wpT, G3.wpAnd, G3.wpOr, G3.wpAndT, G3.wpOrT, G3.wpI, G3.wpG, G3.wpGs, G3.wipe3, G3.GV.d, G3.st3, G3.bi3, G3.me3, G3.Me.ty, G3.rets, List.replicate, G3.wl, Nat.reduceAdd, Nat.reduceSub, reduceIte]
    rw [seqI_ref ec2]
    refine lc_mp D.int C (fun x => .int (co of x)) (fun M' sb => sb _ _ ec2) (fun x hx M' sb Qe h => ?_) (by rw [sline]; omega) ?_
    · obtain ⟨h0, h1⟩ := hin x hx
      simp only [encM, am x h0 h1, G3.wpSs, G3.wpS, G3.wpE, G3.wpEL, G3.wpO, G3.wpTO, G3.wpT, G3.wpAnd, G3.wpOr, G3.wpAndT, G3.wpOrT, G3.wpI, G3.wpG, G3.wpGs, G3.wipe3, G3.GV.d, G3.st3, G3.bi3, G3.me3, G3.Me.ty, G3.rets, List.replicate, G3.wl, Nat.reduceAdd, Nat.reduceSub, reduceIte]
      exact h _ .refl
    rw [show (C.map fun x => D.int (co of x)) = (C.map (co of)).map .int by rw [List.map_map]; rfl]
    intro b2 hb2
    have ec3 := put_keep (o' := .lst ((C.map (co of)).map D.int)) ec2 hb2
    have go3 := go2.sub (Sub.new (o := .lst ((C.map (co of)).map D.int)) hb2)
    simp only [seqAt_ref put_same, ints_map, seqAt_ref ec3, G3.wpSs, G3.wpS, G3.wpE, G3.wpEL, G3.wpO, G3.wpTO, G3.wpT, G3.wpAnd, G3.wpOr, G3.wpAndT, G3.wpOrT, G3.wpI, G3.wpG, G3.wpGs, G3.wipe3, G3.GV.d, G3.st3, G3.bi3, G3.me3, G3.Me.ty, G3.rets, List.replicate, G3.wl, Nat.reduceAdd, Nat.reduceSub, reduceIte]
    refine ⟨of, C, rfl, hin, by omega, ?_⟩
    refine ⟨_, _, rfl, .inl ⟨trivial, rfl⟩, ?_⟩
    simp only [G3.wpSs, G3.wpS, G3.wpE, G3.wpEL, G3.wpO, G3.wpTO, G3.wpT, G3.wpAnd, G3.wpOr, G3.wpAndT, G3.wpOrT, G3.wpI, G3.wpG, G3.wpGs, G3.wipe3, G3.GV.d, G3.st3, G3.bi3, G3.me3, G3.Me.ty, G3.rets, List.replicate, G3.wl, Nat.reduceAdd, Nat.reduceSub, reduceIte]
    by_cases ct : parts p q (C.map (hr of)) = Nat.gcd p q
    · rw [if_pos ct]
      have hge : cst p q of T ≤ (C.map (co of)).sum := by
        unfold cst
        by_cases c2 : parts p q (of.map (·.1)) = Nat.gcd p q
        · rw [if_pos c2]
          exact best_cost hp hq bT (co_nn hc) nd hin (by omega)
        · rw [if_neg c2]; exact sum_nn hc hin
      rw [if_neg (by omega)]
      exact K _ _ _ go3
    · rw [if_neg ct]
      exact K _ _ _ go3
  have MIN : ∀ (M' : Mp) (s7 s8 s9 s10 s11 s12 : Option D), Go M a M' → G3.wpSs (r2__law_offers_are_right sp_height_chain sp__law_take (sp__law_same 3) sp_reading_cost sp_does_tell_all sp__law_tells_all sp_pkB sp__law_gcd sp_first_gap sp_cheapest_reading sp_first_gap sp_cheapest_reading)
      (rets Q) [some (.ref a), some (.int p), some (.int q), some (encM of), some (bestD p q of T), some (optD (gap p q (of.map (·.1)))), some (.int (cst p q of T)), s7, s8, s9, s10, s11, s12, none, none] M' := by
    intro M' s7 s8 s9 s10 s11 s12 go
    simp only [r2__law_offers_are_right, G3.wpSs, G3.wpS, G3.wpE, G3.wpEL, G3.wpO, G3.wpTO, G3.wpT, G3.wpAnd, G3.wpOr, G3.wpAndT, G3.wpOrT, G3.wpI, G3.wpG, G3.wpGs, G3.wipe3, G3.GV.d, G3.st3, G3.bi3, G3.me3, G3.Me.ty, G3.rets, List.replicate, G3.wl, Nat.reduceAdd, Nat.reduceSub, reduceIte]
    refine ⟨by decide, by decide, fun i τ M' => ∃ s7 s8 s9 s10 s11 s12 : Option D, τ = [some (.ref a), some (.int p), some (.int q), some (encM of), some (bestD p q of T), some (optD (gap p q (of.map (·.1)))), some (.int (cst p q of T)), s7, s8, s9, s10, s11, s12, none, none] ∧ Go M a M', ⟨_, _, _, _, _, _, rfl, go⟩, ?_⟩
    clear go s7 s8 s9 s10 s11 s12 M'
    rintro i τ M' ⟨s7, s8, s9, s10, s11, s12, rfl, go⟩ hi
    refine ⟨trivial, fun d hd => ?_, fun ei => ?_⟩
    · obtain ⟨_, rfl⟩ := rgD_get hd
      have big : ∀ n : Nat, n ≤ 10000 → (-2 ^ 62 ≤ (n : Int)) ∧ (n : Int) < 2 ^ 62 := fun n hn => ⟨by omega, by omega⟩
      have lo : ∀ {M' : Mp} {Q : K3}, len3 (encM of) M' Q = Q (.int of.length) M' := by intro M' Q; unfold encM; rw [len3_tup, List.length_map]
      simp only [lo, G3.wpSs, G3.wpS, G3.wpE, G3.wpEL, G3.wpO, G3.wpTO, G3.wpT, G3.wpAnd, G3.wpOr, G3.wpAndT, G3.wpOrT, G3.wpI, G3.wpG, G3.wpGs, G3.wipe3, G3.GV.d, G3.st3, G3.bi3, G3.me3, G3.Me.ty, G3.rets, List.replicate, G3.wl, Nat.reduceAdd, Nat.reduceSub, reduceIte]
      refine ⟨(big _ (by omega)).1, (big _ (by omega)).2, ?_⟩
      rw [Int.toNat_natCast, rg_map]
      obtain ⟨xs1, e1⟩ := go.at
      refine lc_keep (fun k : Nat => D.int (k : Int)) (List.range of.length) e1 (fun _ _ => trivial) (fun k hk xs M2 em kp Qe Qn h h' => ?_) (by rw [sline, List.length_range]; omega) ?_
      · simp only [G3.wpSs, G3.wpS, G3.wpE, G3.wpEL, G3.wpO, G3.wpTO, G3.wpT, G3.wpAnd, G3.wpOr, G3.wpAndT, G3.wpOrT, G3.wpI, G3.wpG, G3.wpGs, G3.wipe3, G3.GV.d, G3.st3, G3.bi3, G3.me3, G3.Me.ty, G3.rets, List.replicate, G3.wl, Nat.reduceAdd, Nat.reduceSub, reduceIte]
        refine take_step em (by omega) fun r xs2 r0 r1 => ?_
        simp only [G3.wpSs, G3.wpS, G3.wpE, G3.wpEL, G3.wpO, G3.wpTO, G3.wpT, G3.wpAnd, G3.wpOr, G3.wpAndT, G3.wpOrT, G3.wpI, G3.wpG, G3.wpGs, G3.wipe3, G3.GV.d, G3.st3, G3.bi3, G3.me3, G3.Me.ty, G3.rets, List.replicate, G3.wl, Nat.reduceAdd, Nat.reduceSub, reduceIte]
        split
        · exact h _
        · exact h' _
      intro C0 xs2 hC0 c hc0
      have hca := Go.ne e1 hc0
      have hc1 : put M' a (.lst (xs2.map .int)) c = none := by rw [put_ne hca]; exact hc0
      have go1 := (go.put xs2).sub (Sub.new (o := .lst (C0.map fun k : Nat => D.int (k : Int))) hc1)
      have e2 : put (put M' a (.lst (xs2.map .int))) c (.lst (C0.map fun k : Nat => D.int (k : Int))) a = some (.lst (xs2.map .int)) := by rw [put_ne hca.symm, put_same]
      have ec : put (put M' a (.lst (xs2.map .int))) c (.lst (C0.map fun k : Nat => D.int (k : Int))) c = some (.lst ((C0.map fun k : Nat => (k : Int)).map .int)) := by rw [put_same, List.map_map]; rfl
      generalize put (put M' a (.lst (xs2.map .int))) c (.lst (C0.map fun k : Nat => D.int (k : Int))) = M2 at *
      have hin : inR of (C0.map fun k : Nat => (k : Int)) := fun x hx => by
        obtain ⟨j, hj, rfl⟩ := List.mem_map.mp hx
        have := List.mem_range.mp (hC0.subset hj)
        omega
      have nd : (C0.map fun k : Nat => (k : Int)).Nodup := by
        have := List.nodup_range.sublist hC0
        unfold List.Nodup at *
        rw [List.pairwise_map]
        exact this.imp fun h z => h (by omega)
      have hlen : (C0.map fun k : Nat => (k : Int)).length ≤ 100 := by
        rw [List.length_map]
        have := hC0.length_le
        rw [List.length_range] at this
        omega
      generalize (C0.map fun k : Nat => (k : Int)) = C at *
      have nxt : ∀ (s11 s12 : Option D) (M'' : Mp) (s7 s8 s9 s10 : Option D), Go M a M'' → wk (fun M' => ∃ s7' s8' s9' s10' s11' s12' : Option D, [some (.ref a), some (.int p), some (.int q), some (encM of), some (bestD p q of T), some (optD (gap p q (of.map (·.1)))), some (.int (cst p q of T)), s7, s8, s9, s10, s11, s12, none, none] =
          [some (.ref a), some (.int p), some (.int q), some (encM of), some (bestD p q of T), some (optD (gap p q (of.map (·.1)))), some (.int (cst p q of T)), s7', s8', s9', s10', s11', s12', none, none] ∧ Go M a M') M'' := fun _ _ _ _ _ _ _ g => wk.of ⟨_, _, _, _, _, _, rfl, g⟩
      by_cases cb : parts p q (of.map (·.1)) = Nat.gcd p q
      · have eb : bestD p q of T = .tup (T.map .int) := by unfold bestD; rw [if_pos cb]
        rw [if_pos (by rw [eb]; rfl)]
        refine take_step e2 (by omega) fun r xs3 r0 r1 => ?_
        have go2 := go1.put xs3
        have ec2 : put M2 a (.lst (xs3.map .int)) c = some (.lst (C.map .int)) := by rw [put_ne hca]; exact ec
        have e3 : put M2 a (.lst (xs3.map .int)) a = some (.lst (xs3.map .int)) := put_same
        generalize put M2 a (.lst (xs3.map .int)) = M3 at *
        simp only [G3.wpSs, G3.wpS, G3.wpE, G3.wpEL, G3.wpO, G3.wpTO, G3.wpT, G3.wpAnd, G3.wpOr, G3.wpAndT, G3.wpOrT, G3.wpI, G3.wpG, G3.wpGs, G3.wipe3, G3.GV.d, G3.st3, G3.bi3, G3.me3, G3.Me.ty, G3.rets, List.replicate, G3.wl, Nat.reduceAdd, Nat.reduceSub, reduceIte]
        split
        · rw [eb] at TAIL nxt ⊢
          simp only [G3.wpSs, G3.wpS, G3.wpE, G3.wpEL, G3.wpO, G3.wpTO, G3.wpT, G3.wpAnd, G3.wpOr, G3.wpAndT, G3.wpOrT, G3.wpI, G3.wpG, G3.wpGs, G3.wipe3, G3.GV.d, G3.st3, G3.bi3, G3.me3, G3.Me.ty, G3.rets, List.replicate, G3.wl, Nat.reduceAdd, Nat.reduceSub, reduceIte]
          refine lc_keep D.int T e3 (fun _ _ => trivial) (fun x hx xs M4 em kp Qe Qn h h' => ?_) (by rw [sline]; omega) ?_
          · simp only [G3.wpSs, G3.wpS, G3.wpE, G3.wpEL, G3.wpO, G3.wpTO, G3.wpT, G3.wpAnd, G3.wpOr, G3.wpAndT, G3.wpOrT, G3.wpI, G3.wpG, G3.wpGs, G3.wipe3, G3.GV.d, G3.st3, G3.bi3, G3.me3, G3.Me.ty, G3.rets, List.replicate, G3.wl, Nat.reduceAdd, Nat.reduceSub, reduceIte]
            refine ⟨a, xs, _, _, rfl, em, .inr rfl, (fun z => by rw [List.map_eq_nil_iff.mp z] at hx; cases hx), fun r' xs4 hr' => ?_⟩
            obtain ⟨z, _, rfl⟩ := List.mem_map.mp hr'
            simp only [G3.wpSs, G3.wpS, G3.wpE, G3.wpEL, G3.wpO, G3.wpTO, G3.wpT, G3.wpAnd, G3.wpOr, G3.wpAndT, G3.wpOrT, G3.wpI, G3.wpG, G3.wpGs, G3.wipe3, G3.GV.d, G3.st3, G3.bi3, G3.me3, G3.Me.ty, G3.rets, List.replicate, G3.wl, Nat.reduceAdd, Nat.reduceSub, reduceIte]
            split
            · exact h _
            · exact h' _
          intro C1 xs4 hC1 d1 hd1
          have hd1a := Go.ne e3 hd1
          have hd1c : put M3 a (.lst (xs4.map .int)) d1 = none := by rw [put_ne hd1a]; exact hd1
          have go3 := (go2.put xs4).sub (Sub.new (o := .lst (C1.map D.int)) hd1c)
          have ec3 : put (put M3 a (.lst (xs4.map .int))) d1 (.lst (C1.map D.int)) c = some (.lst (C.map .int)) := by
            refine put_keep ?_ hd1c
            rw [put_ne hca]; exact ec2
          have ed1 : put (put M3 a (.lst (xs4.map .int))) d1 (.lst (C1.map D.int)) d1 = some (.lst (C1.map .int)) := put_same
          generalize put (put M3 a (.lst (xs4.map .int))) d1 (.lst (C1.map D.int)) = M4 at *
          rw [seqI_ref ec3]
          refine lc_fm D.int C (fun x => if (!decide (x ∈ T)) = true then some (.int x) else none) (fun M' sb => sb _ _ ec3) (fun x hx M' sb Qe Qn h h' => ?_) (by rw [sline]; omega) ?_
          · simp only [in3_tup, inF_ints, G3.wpSs, G3.wpS, G3.wpE, G3.wpEL, G3.wpO, G3.wpTO, G3.wpT, G3.wpAnd, G3.wpOr, G3.wpAndT, G3.wpOrT, G3.wpI, G3.wpG, G3.wpGs, G3.wipe3, G3.GV.d, G3.st3, G3.bi3, G3.me3, G3.Me.ty, G3.rets, List.replicate, G3.wl, Nat.reduceAdd, Nat.reduceSub, reduceIte]
            refine ⟨rfl, flat_ints, ?_⟩
            by_cases cx : x ∈ T
            · rw [decide_eq_true cx] at h' ⊢
              exact h' rfl _ .refl
            · rw [decide_eq_false cx] at h ⊢
              exact h _ rfl _ .refl
          rw [fm_ifG (P := fun x : Int => !decide (x ∈ T)) (f := fun x => x) (g := D.int), List.map_id']
          intro d2 hd2
          have ed1' := put_keep (o' := .lst ((C.filter fun x => !decide (x ∈ T)).map D.int)) ed1 hd2
          have go4 := go3.sub (Sub.new (o := .lst ((C.filter fun x => !decide (x ∈ T)).map D.int)) hd2)
          simp only [add_ref ed1' put_same, G3.wpSs, G3.wpS, G3.wpE, G3.wpEL, G3.wpO, G3.wpTO, G3.wpT, G3.wpAnd, G3.wpOr, G3.wpAndT, G3.wpOrT, G3.wpI, G3.wpG, G3.wpGs, G3.wipe3, G3.GV.d, G3.st3, G3.bi3, G3.me3, G3.Me.ty, G3.rets, List.replicate, G3.wl, Nat.reduceAdd, Nat.reduceSub, reduceIte]
          have l1 := hC1.length_le
          have l2 := List.length_filter_le (fun x => !decide (x ∈ T)) C
          refine ⟨by rw [sline]; omega, fun d3 hd3 => ?_⟩
          simp only [listAt_ref put_same, ← List.map_append, ints_map, G3.wpSs, G3.wpS, G3.wpE, G3.wpEL, G3.wpO, G3.wpTO, G3.wpT, G3.wpAnd, G3.wpOr, G3.wpAndT, G3.wpOrT, G3.wpI, G3.wpG, G3.wpGs, G3.wipe3, G3.GV.d, G3.st3, G3.bi3, G3.me3, G3.Me.ty, G3.rets, List.replicate, G3.wl, Nat.reduceAdd, Nat.reduceSub, reduceIte]
          intro N hN hs' d4 hd4
          have go5 := (go4.sub (Sub.new (o := .lst ((C1 ++ C.filter fun x => !decide (x ∈ T)).map D.int)) hd3))
          have go6 := go5.sub (Sub.new (o := .lst (N.map D.int)) hd4)
          have hd4a : d4 ≠ a := fun z => by
            subst z
            obtain ⟨xs5, e5⟩ := go5.at
            rw [e5] at hd4; cases hd4
          have memN : ∀ x, x ∈ N ↔ x ∈ C1 ∨ x ∈ C ∧ x ∉ T := fun x => by
            rw [hN.mem_iff, List.mem_append, List.mem_filter]
            simp
          refine TAIL _ _ d4 N _ _ _ _ _ go6 hd4a put_same ?_ (fun x hx => ?_) ?_ fun s11 s12 M'' g => nxt _ _ _ _ _ _ _ g
          · refine hN.nodup_iff.mpr (List.nodup_append.mpr ⟨ndT.sublist hC1, nd.sublist List.filter_sublist, fun x hx y hy z => ?_⟩)
            subst z
            have := (List.mem_filter.mp hy).2
            simp at this
            exact this (hC1.subset hx)
          · rcases (memN x).mp hx with z | z
            · exact inT x (hC1.subset z)
            · exact hin x z.1
          · rw [hN.length_eq, List.length_append]; omega
        · exact TAIL _ _ c C _ _ _ _ _ go2 hca ec2 nd hin (by omega) fun s11 s12 M'' g => nxt _ _ _ _ _ _ _ g
      · have eb : bestD p q of T = .non := by unfold bestD; rw [if_neg cb]
        rw [if_neg (by rw [eb]; simp [G3.isNon_non])]
        exact TAIL _ _ c C _ _ _ _ _ go1 hca ec nd hin (by omega) fun s11 s12 M'' g => nxt _ _ _ _ _ _ _ g
    · exact wk.of (FIN _ _ _ _ _ _ _ go)
  by_cases c : parts p q (of.map (·.1)) = Nat.gcd p q
  · have eb : bestD p q of T = .tup (T.map .int) := by unfold bestD; rw [if_pos c]
    have ec : cst p q of T = (T.map (co of)).sum := by unfold cst; rw [if_pos c]
    rw [eb] at MIN ⊢
    rw [ec] at MIN
    simp only [G3.wpSs, G3.wpS, G3.wpE, G3.wpEL, G3.wpO, G3.wpTO, G3.wpT, G3.wpAnd, G3.wpOr, G3.wpAndT, G3.wpOrT, G3.wpI, G3.wpG, G3.wpGs, G3.wipe3, G3.GV.d, G3.st3, G3.bi3, G3.me3, G3.Me.ty, G3.rets, List.replicate, G3.wl, Nat.reduceAdd, Nat.reduceSub, reduceIte]
    refine lc_mp D.int T (fun x => .int (co of x)) (fun _ _ => trivial) (fun x hx M' sb Qe h => ?_) (by rw [sline]; omega) ?_
    · obtain ⟨h0, h1⟩ := inT x hx
      simp only [encM, am x h0 h1, G3.wpSs, G3.wpS, G3.wpE, G3.wpEL, G3.wpO, G3.wpTO, G3.wpT, G3.wpAnd, G3.wpOr, G3.wpAndT, G3.wpOrT, G3.wpI, G3.wpG, G3.wpGs, G3.wipe3, G3.GV.d, G3.st3, G3.bi3, G3.me3, G3.Me.ty, G3.rets, List.replicate, G3.wl, Nat.reduceAdd, Nat.reduceSub, reduceIte]
      exact h _ .refl
    rw [show (T.map fun x => D.int (co of x)) = (T.map (co of)).map .int by rw [List.map_map]; rfl]
    intro b hb
    simp only [seqAt_ref put_same, ints_map, G3.wpSs, G3.wpS, G3.wpE, G3.wpEL, G3.wpO, G3.wpTO, G3.wpT, G3.wpAnd, G3.wpOr, G3.wpAndT, G3.wpOrT, G3.wpI, G3.wpG, G3.wpGs, G3.wipe3, G3.GV.d, G3.st3, G3.bi3, G3.me3, G3.Me.ty, G3.rets, List.replicate, G3.wl, Nat.reduceAdd, Nat.reduceSub, reduceIte]
    refine ⟨of, T, rfl, inT, by omega, ?_⟩
    refine ⟨_, _, rfl, .inl ⟨trivial, rfl⟩, ?_⟩
    simp only [G3.wpSs, G3.wpS, G3.wpE, G3.wpEL, G3.wpO, G3.wpTO, G3.wpT, G3.wpAnd, G3.wpOr, G3.wpAndT, G3.wpOrT, G3.wpI, G3.wpG, G3.wpGs, G3.wipe3, G3.GV.d, G3.st3, G3.bi3, G3.me3, G3.Me.ty, G3.rets, List.replicate, G3.wl, Nat.reduceAdd, Nat.reduceSub, reduceIte]
    refine ⟨p, q, rfl, by omega, ?_⟩
    simp only [G3.wpSs, G3.wpS, G3.wpE, G3.wpEL, G3.wpO, G3.wpTO, G3.wpT, G3.wpAnd, G3.wpOr, G3.wpAndT, G3.wpOrT, G3.wpI, G3.wpG, G3.wpGs, G3.wipe3, G3.GV.d, G3.st3, G3.bi3, G3.me3, G3.Me.ty, G3.rets, List.replicate, G3.wl, Nat.reduceAdd, Nat.reduceSub, reduceIte]
    rw [c] at lenT
    rw [if_neg (by simp; omega)]
    have := MIN _ none none none none none none ((Go.refl ea).sub (Sub.new (o := .lst ((T.map (co of)).map .int)) hb))
    exact this
  · have eb : bestD p q of T = .non := by unfold bestD; rw [if_neg c]
    have ec : cst p q of T = 0 := by unfold cst; rw [if_neg c]
    rw [eb] at MIN ⊢
    rw [ec] at MIN
    simp only [G3.wpSs, G3.wpS, G3.wpE, G3.wpEL, G3.wpO, G3.wpTO, G3.wpT, G3.wpAnd, G3.wpOr, G3.wpAndT, G3.wpOrT, G3.wpI, G3.wpG, G3.wpGs, G3.wipe3, G3.GV.d, G3.st3, G3.bi3, G3.me3, G3.Me.ty, G3.rets, List.replicate, G3.wl, Nat.reduceAdd, Nat.reduceSub, reduceIte]
    exact MIN _ _ _ _ _ _ _ (Go.refl ea)
end K83
set_option Elab.async false
set_option linter.all false
set_option maxRecDepth 100000
set_option maxHeartbeats 4000000
/-! the law, walked -/
namespace K83
open G3 L2 G3w G5
theorem lc_drawG {β : Type} (enc : β → D) {a : Addr} {xs0 : List Int} {ds : List D} {tn : Tn} {vs : List Nat} {te : TE3} {τ : S3} {M1 : Mp} {Q : K3} {keep : Mp → Prop} (hk : ∀ M, keep M ∨ ∃ p l, p ≠ a ∧ M1 p = some l ∧ (M p = some l → keep M)) (e : M1 a = some (.lst (xs0.map .int)))
    (hf : ∀ (i : Nat) (d : D), ds[i]? = some d → ∀ (xs : List Int) (M : Mp), M a = some (.lst (xs.map .int)) → ∀ Qe : K3, (∀ (b : β) (xs' : List Int), Qe (enc b) (put M a (.lst (xs'.map .int)))) → wpG tn d M (wipe3 τ vs) fun τ2 => te τ2 M Qe)
    (hn : ds.length < 16777216)
    (hQ : ∀ (bs : List β) (xs : List Int), bs.length = ds.length → ∀ p, M1 p = none → Q (.ref p) (put (put M1 a (.lst (xs.map .int))) p (.lst (bs.map enc)))) :
    lcW ds keep tn vs (fun _ M Q => Q true M) te τ M1 Q := by
  intro p hp
  have hap : a ≠ p := fun z => by subst z; rw [hp] at e; cases e
  refine ⟨fun i acc M => ∃ (bs : List β) (xs : List Int), bs.length = i ∧ acc = bs.map enc ∧ M = put (put M1 a (.lst (xs.map .int))) p (.lst acc), ⟨[], xs0, rfl, rfl, by rw [put_self e]⟩, ?_⟩
  rintro i acc M ⟨bs, xs, hr, rfl, rfl⟩ hi
  refine ⟨?_, put_same, fun d hd => ?_, fun ei => ?_⟩
  · rcases hk (put (put M1 a (.lst (xs.map .int))) p (.lst (bs.map enc))) with h | ⟨p', l, h1, h2, h3⟩
    · exact h
    · refine h3 ?_
      rw [put_ne (fun z => by subst z; rw [hp] at h2; cases h2), put_ne h1]; exact h2
  · have hi2 : i < ds.length := (List.getElem?_eq_some_iff.mp hd).1
    simp only [if_true]
    refine hf i d hd xs _ (by rw [put_ne hap, put_same]) _ fun b xs' => ⟨by rw [List.length_map, sline]; omega, by rw [put_ne (Ne.symm hap), put_same], wk.of ⟨bs ++ [b], xs', by rw [List.length_append, hr]; rfl, by rw [List.map_append]; rfl, ?_⟩⟩
    rw [put_comm (Ne.symm hap), put_put, put_put]
  · exact wk.of (hQ bs xs (by omega) p hp)
def ofD (bs : List (Int × Nat)) : Of := bs.map fun b => (b.1, (b.2 : Int))
def enB (b : Int × Nat) : D := .tup [.int b.1, .int (b.2 : Int)]
theorem ofD_enc {bs : List (Int × Nat)} : D.tup (bs.map enB) = encM (ofD bs) := by unfold encM ofD enB; rw [List.map_map]; rfl
theorem ofD_nn {bs : List (Int × Nat)} : ∀ o ∈ ofD bs, 0 ≤ o.2 := fun o ho => by
  obtain ⟨b, _, rfl⟩ := List.mem_map.mp ho
  exact Int.natCast_nonneg _
theorem hour_cost {M : Mp} {a : Addr} {xs : List Int} {Q : K3} (e : M a = some (.lst (xs.map .int))) (h : ∀ (r : Int) (xs' : List Int), 0 ≤ r → Q (.int r) (put M a (.lst (xs'.map .int)))) : sp__law_cost [.ref a] M Q := ⟨a, xs, rfl, e, h⟩
theorem right_step {M : Mp} {a : Addr} {xs : List Int} {p q : Nat} {bs : List (Int × Nat)} {Q : K3} (e : M a = some (.lst (xs.map .int))) (hp : 0 < p) (hq : 0 < q) (p1 : p ≤ 100) (q1 : q ≤ 100) (hl : bs.length ≤ 100) (h : ∀ M', Go M a M' → Q (.bl true) M') :
    sp__law_offers_are_right [.ref a, .int p, .int q, .tup (bs.map enB)] M Q := by
  rw [ofD_enc]
  exact ⟨a, xs, p, q, ofD bs, rfl, e, hp, hq, p1, q1, by unfold ofD; rw [List.length_map]; exact hl, ofD_nn, h⟩
def lastO : List (Int × Nat) := [(0, 3), (1, 2), (2, 1), (3, 0)]
theorem last_best : Best 2 2 (ofD lastO) [2, 3] := ⟨[(0, 3), (1, 2), (2, 1), (3, 0)], by decide, by unfold lexLe; decide, by decide, by decide⟩
theorem last_all : parts 2 2 ((ofD lastO).map (·.1)) = Nat.gcd 2 2 := by decide
def sp_law : Sp3 := fun ds M Q => ∃ ns : List Int, ds = [.cl (ns.map .int)] ∧ ns.length ≤ 63 ∧ Q (.bl true) M
theorem t_law : ∀ ds M Q, sp_law ds M Q → G3.wpSs (b_law sp__law_offers_are_right (sp__law_same 3) sp_cheapest_reading sp__law_cost sp__law_take sp__law_shuffled sp__law_gcd sp__law_tide_hour sp__law_tide_period sp__law_draws) (rets Q) (st3 n_law.length ds) M := by
  rintro ds M Q ⟨ns, rfl, hl, q⟩
  have big : ∀ n : Nat, n ≤ 10000 → (-2 ^ 62 ≤ (n : Int)) ∧ (n : Int) < 2 ^ 62 := fun n hn => ⟨by omega, by omega⟩
  have END : ∀ (M' : Mp) (a : Addr) (s2 s3 s4 s5 s6 s7 : Option D), M a = none → Go M a M' → G3.wpSs (r2_law sp__law_offers_are_right (sp__law_same 3) sp_cheapest_reading sp__law_cost sp__law_take sp__law_shuffled sp__law_gcd sp__law_tide_hour sp__law_tide_period sp__law_draws) (rets Q)
      [some (.cl (ns.map .int)), some (.ref a), s2, s3, s4, s5, s6, s7, none, none] M' := by
    intro M' a s2 s3 s4 s5 s6 s7 ha go
    simp only [r2_law, G3.wpSs, G3.wpS, G3.wpE, G3.wpEL, G3.wpO, G3.wpTO, G3.wpT, G3.wpAnd, G3.wpOr, G3.wpAndT, G3.wpOrT, G3.wpI, G3.wpG, G3.wpGs, G3.wipe3, G3.GV.d, G3.st3, G3.bi3, G3.me3, G3.Me.ty, G3.rets, List.replicate, G3.wl, Nat.reduceAdd, Nat.reduceSub, reduceIte]
    refine ⟨by decide, by decide, ?_⟩
    rw [show Int.toNat 4 = 4 from rfl, rg_map]
    refine lc_mp (fun k : Nat => D.int (k : Int)) (List.range 4) (fun k => .tup [.int k, .int (3 - k)]) (fun _ _ => trivial) (fun k hk M' sb Qe h => ?_) (by rw [sline, List.length_range]; omega) ?_
    · try simp only [G3.wpSs, G3.wpS, G3.wpE, G3.wpEL, G3.wpO, G3.wpTO, G3.wpT, G3.wpAnd, G3.wpOr, G3.wpAndT, G3.wpOrT, G3.wpI, G3.wpG, G3.wpGs, G3.wipe3, G3.GV.d, G3.st3, G3.bi3, G3.me3, G3.Me.ty, G3.rets, List.replicate, G3.wl, Nat.reduceAdd, Nat.reduceSub, reduceIte]; exact h _ .refl
    rw [show ((List.range 4).map fun k : Nat => D.tup [.int (k : Int), .int (3 - (k : Int))]) = lastO.map enB from rfl]
    intro b hb
    simp only [seqAt_ref put_same, G3.wpSs, G3.wpS, G3.wpE, G3.wpEL, G3.wpO, G3.wpTO, G3.wpT, G3.wpAnd, G3.wpOr, G3.wpAndT, G3.wpOrT, G3.wpI, G3.wpG, G3.wpGs, G3.wipe3, G3.GV.d, G3.st3, G3.bi3, G3.me3, G3.Me.ty, G3.rets, List.replicate, G3.wl, Nat.reduceAdd, Nat.reduceSub, reduceIte]
    have go2 := go.sub (Sub.new (o := .lst (lastO.map enB)) hb)
    generalize put M' b (.lst (lastO.map enB)) = M2 at *
    obtain ⟨xs, e⟩ := go2.at
    refine ⟨2, 2, ofD lastO, by rw [ofD_enc]; rfl, by decide, by decide, by decide, by decide, by decide, fun T hT => ?_⟩
    rw [best_uniq hT last_best]
    refine ⟨_, _, rfl, ?_, ?_⟩
    · unfold bestD
      rw [if_pos last_all]
      exact same_ints (T := [2, 3]) (by decide)
    try simp only [G3.wpSs, G3.wpS, G3.wpE, G3.wpEL, G3.wpO, G3.wpTO, G3.wpT, G3.wpAnd, G3.wpOr, G3.wpAndT, G3.wpOrT, G3.wpI, G3.wpG, G3.wpGs, G3.wipe3, G3.GV.d, G3.st3, G3.bi3, G3.me3, G3.Me.ty, G3.rets, List.replicate, G3.wl, Nat.reduceAdd, Nat.reduceSub, reduceIte]
    refine right_step (p := 3) (q := 2) e (by decide) (by decide) (by decide) (by decide) (by decide) fun M3 g => ?_
    obtain ⟨xs3, s3⟩ := go2.trans g
    exact wk_sub ((Sub.new ha).trans s3) q
  have MID : ∀ (M' : Mp) (a : Addr) (s2 s3 s4 s5 s6 s7 : Option D), M a = none → Go M a M' → G3.wpSs (r1_law sp__law_offers_are_right (sp__law_same 3) sp_cheapest_reading sp__law_cost sp__law_take sp__law_shuffled sp__law_gcd sp__law_tide_hour sp__law_tide_period sp__law_draws) (rets Q)
      [some (.cl (ns.map .int)), some (.ref a), s2, s3, s4, s5, s6, s7, none, none] M' := by
    intro M' a s2 s3 s4 s5 s6 s7 ha go
    simp only [r1_law, G3.wpSs, G3.wpS, G3.wpE, G3.wpEL, G3.wpO, G3.wpTO, G3.wpT, G3.wpAnd, G3.wpOr, G3.wpAndT, G3.wpOrT, G3.wpI, G3.wpG, G3.wpGs, G3.wipe3, G3.GV.d, G3.st3, G3.bi3, G3.me3, G3.Me.ty, G3.rets, List.replicate, G3.wl, Nat.reduceAdd, Nat.reduceSub, reduceIte]
    refine ⟨by decide, by decide, fun i τ M' => ∃ s2 s3 s4 s5 s6 s7 : Option D, τ = [some (.cl (ns.map .int)), some (.ref a), s2, s3, s4, s5, s6, s7, none, none] ∧ Go M a M', ⟨_, _, _, _, _, _, rfl, go⟩, ?_⟩
    clear go s2 s3 s4 s5 s6 s7 M'
    rintro i τ M1 ⟨s2, s3, s4, s5, s6, s7, rfl, go⟩ hi
    refine ⟨trivial, fun d hd => ?_, fun ei => wk.of (END _ _ _ _ _ _ _ _ ha go)⟩
    obtain ⟨_, rfl⟩ := rgD_get hd
    obtain ⟨xs, e⟩ := go.at
    try simp only [G3.wpSs, G3.wpS, G3.wpE, G3.wpEL, G3.wpO, G3.wpTO, G3.wpT, G3.wpAnd, G3.wpOr, G3.wpAndT, G3.wpOrT, G3.wpI, G3.wpG, G3.wpGs, G3.wipe3, G3.GV.d, G3.st3, G3.bi3, G3.me3, G3.Me.ty, G3.rets, List.replicate, G3.wl, Nat.reduceAdd, Nat.reduceSub, reduceIte]
    refine take_step e (by decide) fun r xs1 r0 r1 => ?_
    obtain ⟨p, rfl⟩ := Int.eq_ofNat_of_zero_le (show 0 ≤ r by omega)
    try simp only [G3.wpSs, G3.wpS, G3.wpE, G3.wpEL, G3.wpO, G3.wpTO, G3.wpT, G3.wpAnd, G3.wpOr, G3.wpAndT, G3.wpOrT, G3.wpI, G3.wpG, G3.wpGs, G3.wipe3, G3.GV.d, G3.st3, G3.bi3, G3.me3, G3.Me.ty, G3.rets, List.replicate, G3.wl, Nat.reduceAdd, Nat.reduceSub, reduceIte]
    refine take_step put_same (by decide) fun r xs2 r2 r3 => ?_
    obtain ⟨q', rfl⟩ := Int.eq_ofNat_of_zero_le (show 0 ≤ r by omega)
    have go := (go.put xs1).put xs2
    rw [put_as] at go ⊢
    have e : put M1 a (.lst (xs2.map .int)) a = some (.lst (xs2.map .int)) := put_same
    generalize put M1 a (.lst (xs2.map .int)) = M2 at *
    try simp only [G3.wpSs, G3.wpS, G3.wpE, G3.wpEL, G3.wpO, G3.wpTO, G3.wpT, G3.wpAnd, G3.wpOr, G3.wpAndT, G3.wpOrT, G3.wpI, G3.wpG, G3.wpGs, G3.wipe3, G3.GV.d, G3.st3, G3.bi3, G3.me3, G3.Me.ty, G3.rets, List.replicate, G3.wl, Nat.reduceAdd, Nat.reduceSub, reduceIte]
    have ep : (1 : Int) + (p : Nat) = ((p + 1 : Nat) : Int) := by omega
    have eq' : (1 : Int) + (q' : Nat) = ((q' + 1 : Nat) : Int) := by omega
    rw [ep, eq']
    have hp : 0 < p + 1 := by omega
    have hq : 0 < q' + 1 := by omega
    have p1 : p + 1 ≤ 7 := by omega
    have q1 : q' + 1 ≤ 6 := by omega
    generalize p + 1 = p at *
    generalize q' + 1 = q' at *
    clear ep eq' r0 r1 r2 r3
    have l0 := Nat.lcm_pos hp hq
    have l1 : Nat.lcm p q' ≤ 42 := Nat.le_trans (Nat.le_of_dvd (Nat.mul_pos hp hq) (Nat.lcm_dvd (Nat.dvd_mul_right _ _) (Nat.dvd_mul_left _ _))) (Nat.mul_le_mul p1 q1)
    refine ⟨MulOk_small (by omega) (by omega), p, q', rfl, by omega, ?_⟩
    have g0 : 0 < Nat.gcd p q' := Nat.gcd_pos_of_pos_left _ hp
    have g1 : Nat.gcd p q' ≤ 7 := Nat.le_trans (Nat.gcd_le_left _ hp) p1
    try simp only [G3.wpSs, G3.wpS, G3.wpE, G3.wpEL, G3.wpO, G3.wpTO, G3.wpT, G3.wpAnd, G3.wpOr, G3.wpAndT, G3.wpOrT, G3.wpI, G3.wpG, G3.wpGs, G3.wipe3, G3.GV.d, G3.st3, G3.bi3, G3.me3, G3.Me.ty, G3.rets, List.replicate, G3.wl, Nat.reduceAdd, Nat.reduceSub, reduceIte]
    refine ⟨DivOk_small (by omega) (by omega), ?_⟩
    rw [lcm_gcd hp hq]
    generalize Nat.lcm p q' = m at *
    refine ⟨by omega, by omega, ?_⟩
    rw [Int.toNat_natCast, rg_map]
    intro b hb
    have e2 := put_keep (o' := .lst ((List.range m).map fun k : Nat => D.int (k : Int))) e hb
    have go2 := go.sub (Sub.new (o := .lst ((List.range m).map fun k : Nat => D.int (k : Int))) hb)
    have eb : put M2 b (.lst ((List.range m).map fun k : Nat => D.int (k : Int))) b = some (.lst (((List.range m).map fun k : Nat => (k : Int)).map .int)) := by rw [put_same, List.map_map]; rfl
    have hba := Go.ne e hb
    generalize put M2 b (.lst ((List.range m).map fun k : Nat => D.int (k : Int))) = M3 at *
    refine ⟨a, b, xs2, _, rfl, e2, eb, hba.symm, by rw [List.length_map, List.length_range]; omega, fun l' t M4 hl' ht g et => ?_⟩
    have go3 := go2.trans g
    have l'l : l'.length = m := by rw [hl'.length_eq, List.length_map, List.length_range]
    obtain ⟨xs4, e4⟩ := go3.at
    have hta := Go.ne e2 ht
    try simp only [G3.wpSs, G3.wpS, G3.wpE, G3.wpEL, G3.wpO, G3.wpTO, G3.wpT, G3.wpAnd, G3.wpOr, G3.wpAndT, G3.wpOrT, G3.wpI, G3.wpG, G3.wpGs, G3.wipe3, G3.GV.d, G3.st3, G3.bi3, G3.me3, G3.Me.ty, G3.rets, List.replicate, G3.wl, Nat.reduceAdd, Nat.reduceSub, reduceIte]
    refine take_step e4 (by decide) fun r xs5 r0 r1 => ?_
    try simp only [G3.wpSs, G3.wpS, G3.wpE, G3.wpEL, G3.wpO, G3.wpTO, G3.wpT, G3.wpAnd, G3.wpOr, G3.wpAndT, G3.wpOrT, G3.wpI, G3.wpG, G3.wpGs, G3.wipe3, G3.GV.d, G3.st3, G3.bi3, G3.me3, G3.Me.ty, G3.rets, List.replicate, G3.wl, Nat.reduceAdd, Nat.reduceSub, reduceIte]
    have et5 : put M4 a (.lst (xs5.map .int)) t = some (.lst (l'.map .int)) := by rw [put_ne hta]; exact et
    have go5 := go3.put xs5
    have e5 : put M4 a (.lst (xs5.map .int)) a = some (.lst (xs5.map .int)) := put_same
    generalize put M4 a (.lst (xs5.map .int)) = M5 at *
    rw [sl3_ref et5]
    obtain ⟨l2, el2, hl2⟩ := cut_map D.int l' none (some (max 1 (min 40 ((m : Int) - r))))
    rw [el2]
    intro c hc
    have hca := Go.ne e5 hc
    have e6 := put_keep (o' := .lst (l2.map D.int)) e5 hc
    have go6 := go5.sub (Sub.new (o := .lst (l2.map D.int)) hc)
    have ec : put M5 c (.lst (l2.map D.int)) c = some (.lst (l2.map .int)) := put_same
    generalize put M5 c (.lst (l2.map D.int)) = M6 at *
    rw [seqI_ref ec]
    refine lc_drawG enB (fun M => .inr ⟨c, _, hca, ec, fun h => h⟩) e6 (fun i d hd xs M em Qe h => ?_) (by rw [List.length_map]; omega) fun bs xs7 hbs t7 ht7 => ?_
    · rw [List.getElem?_map] at hd
      cases hz : l2[i]? with
      | none => rw [hz] at hd; cases hd
      | some hour =>
        rw [hz] at hd; cases hd
        try simp only [G3.wpSs, G3.wpS, G3.wpE, G3.wpEL, G3.wpO, G3.wpTO, G3.wpT, G3.wpAnd, G3.wpOr, G3.wpAndT, G3.wpOrT, G3.wpI, G3.wpG, G3.wpGs, G3.wipe3, G3.GV.d, G3.st3, G3.bi3, G3.me3, G3.Me.ty, G3.rets, List.replicate, G3.wl, Nat.reduceAdd, Nat.reduceSub, reduceIte]
        refine take_step em (by decide) fun r xs8 r0 r1 => ?_
        try simp only [G3.wpSs, G3.wpS, G3.wpE, G3.wpEL, G3.wpO, G3.wpTO, G3.wpT, G3.wpAnd, G3.wpOr, G3.wpAndT, G3.wpOrT, G3.wpI, G3.wpG, G3.wpGs, G3.wipe3, G3.GV.d, G3.st3, G3.bi3, G3.me3, G3.Me.ty, G3.rets, List.replicate, G3.wl, Nat.reduceAdd, Nat.reduceSub, reduceIte]
        refine ⟨MulOk_small (by omega) (by omega), hour_cost put_same fun r2 xs9 r3 => ?_⟩
        obtain ⟨cc, rfl⟩ := Int.eq_ofNat_of_zero_le r3
        rw [put_as]
        try simp only [G3.wpSs, G3.wpS, G3.wpE, G3.wpEL, G3.wpO, G3.wpTO, G3.wpT, G3.wpAnd, G3.wpOr, G3.wpAndT, G3.wpOrT, G3.wpI, G3.wpG, G3.wpGs, G3.wipe3, G3.GV.d, G3.st3, G3.bi3, G3.me3, G3.Me.ty, G3.rets, List.replicate, G3.wl, Nat.reduceAdd, Nat.reduceSub, reduceIte]
        exact h (hour + m * r, cc) xs9
    have hbl : bs.length ≤ 100 := by rw [hbs, List.length_map]; omega
    have ht7a := Go.ne e6 ht7
    have hc7 : put M6 a (.lst (xs7.map .int)) t7 = none := by rw [put_ne ht7a]; exact ht7
    have go7 := (go6.put xs7).sub (Sub.new (o := .lst (bs.map enB)) hc7)
    have e7 : put (put M6 a (.lst (xs7.map .int))) t7 (.lst (bs.map enB)) a = some (.lst (xs7.map .int)) := by rw [put_ne ht7a.symm, put_same]
    simp only [seqAt_ref put_same, G3.wpSs, G3.wpS, G3.wpE, G3.wpEL, G3.wpO, G3.wpTO, G3.wpT, G3.wpAnd, G3.wpOr, G3.wpAndT, G3.wpOrT, G3.wpI, G3.wpG, G3.wpGs, G3.wipe3, G3.GV.d, G3.st3, G3.bi3, G3.me3, G3.Me.ty, G3.rets, List.replicate, G3.wl, Nat.reduceAdd, Nat.reduceSub, reduceIte]
    refine right_step e7 hp hq (by omega) (by omega) hbl fun M8 g8 => ?_
    try simp only [G3.wpSs, G3.wpS, G3.wpE, G3.wpEL, G3.wpO, G3.wpTO, G3.wpT, G3.wpAnd, G3.wpOr, G3.wpAndT, G3.wpOrT, G3.wpI, G3.wpG, G3.wpGs, G3.wipe3, G3.GV.d, G3.st3, G3.bi3, G3.me3, G3.Me.ty, G3.rets, List.replicate, G3.wl, Nat.reduceAdd, Nat.reduceSub, reduceIte]
    exact wk.of ⟨_, _, _, _, _, _, rfl, go7.trans g8⟩
  simp only [b_law, n_law, G3.wpSs, G3.wpS, G3.wpE, G3.wpEL, G3.wpO, G3.wpTO, G3.wpT, G3.wpAnd, G3.wpOr, G3.wpAndT, G3.wpOrT, G3.wpI, G3.wpG, G3.wpGs, G3.wipe3, G3.GV.d, G3.st3, G3.bi3, G3.me3, G3.Me.ty, G3.rets, List.replicate, G3.wl, Nat.reduceAdd, Nat.reduceSub, reduceIte]
  refine ⟨ns, 700, rfl, hl, by decide, fun xs a ha => ?_⟩
  have go : Go M a (put M a (.lst (xs.map .int))) := ⟨xs, .refl⟩
  have e : put M a (.lst (xs.map .int)) a = some (.lst (xs.map .int)) := put_same
  generalize put M a (.lst (xs.map .int)) = M1 at *
  refine ⟨a, xs, rfl, e, fun r xs1 r0 r1 => ?_⟩
  obtain ⟨p, rfl⟩ := Int.eq_ofNat_of_zero_le (show 0 ≤ r by omega)
  refine ⟨a, xs1, rfl, put_same, fun r xs2 r2 r3 => ?_⟩
  obtain ⟨q', rfl⟩ := Int.eq_ofNat_of_zero_le (show 0 ≤ r by omega)
  try simp only [G3.wpSs, G3.wpS, G3.wpE, G3.wpEL, G3.wpO, G3.wpTO, G3.wpT, G3.wpAnd, G3.wpOr, G3.wpAndT, G3.wpOrT, G3.wpI, G3.wpG, G3.wpGs, G3.wipe3, G3.GV.d, G3.st3, G3.bi3, G3.me3, G3.Me.ty, G3.rets, List.replicate, G3.wl, Nat.reduceAdd, Nat.reduceSub, reduceIte]
  refine take_step put_same (by decide) fun r xs3 r4 r5 => ?_
  obtain ⟨n, rfl⟩ := Int.eq_ofNat_of_zero_le r4
  have go := ((go.put xs1).put xs2).put xs3
  rw [put_as, put_as] at go ⊢
  have e : put M1 a (.lst (xs3.map .int)) a = some (.lst (xs3.map .int)) := put_same
  generalize put M1 a (.lst (xs3.map .int)) = M2 at *
  refine ⟨by omega, by omega, ?_⟩
  rw [Int.toNat_natCast]
  refine lc_drawG enB (fun M => .inl trivial) e (fun i d hd xs M em Qe h => ?_) (by rw [rgD_length]; omega) fun bs xs7 hbs t7 ht7 => ?_
  · obtain ⟨_, rfl⟩ := rgD_get hd
    try simp only [G3.wpSs, G3.wpS, G3.wpE, G3.wpEL, G3.wpO, G3.wpTO, G3.wpT, G3.wpAnd, G3.wpOr, G3.wpAndT, G3.wpOrT, G3.wpI, G3.wpG, G3.wpGs, G3.wipe3, G3.GV.d, G3.st3, G3.bi3, G3.me3, G3.Me.ty, G3.rets, List.replicate, G3.wl, Nat.reduceAdd, Nat.reduceSub, reduceIte]
    refine ⟨a, xs, 40, rfl, em, by decide, fun r xs8 r0 => ?_⟩
    try simp only [G3.wpSs, G3.wpS, G3.wpE, G3.wpEL, G3.wpO, G3.wpTO, G3.wpT, G3.wpAnd, G3.wpOr, G3.wpAndT, G3.wpOrT, G3.wpI, G3.wpG, G3.wpGs, G3.wipe3, G3.GV.d, G3.st3, G3.bi3, G3.me3, G3.Me.ty, G3.rets, List.replicate, G3.wl, Nat.reduceAdd, Nat.reduceSub, reduceIte]
    refine hour_cost put_same fun r2 xs9 r3 => ?_
    obtain ⟨cc, rfl⟩ := Int.eq_ofNat_of_zero_le r3
    rw [put_as]
    try simp only [G3.wpSs, G3.wpS, G3.wpE, G3.wpEL, G3.wpO, G3.wpTO, G3.wpT, G3.wpAnd, G3.wpOr, G3.wpAndT, G3.wpOrT, G3.wpI, G3.wpG, G3.wpGs, G3.wipe3, G3.GV.d, G3.st3, G3.bi3, G3.me3, G3.Me.ty, G3.rets, List.replicate, G3.wl, Nat.reduceAdd, Nat.reduceSub, reduceIte]
    exact h (r, cc) xs9
  have hbl : bs.length ≤ 100 := by rw [hbs, rgD_length]; omega
  have ht7a := Go.ne e ht7
  have hc7 : put M2 a (.lst (xs7.map .int)) t7 = none := by rw [put_ne ht7a]; exact ht7
  have go7 := (go.put xs7).sub (Sub.new (o := .lst (bs.map enB)) hc7)
  have e7 : put (put M2 a (.lst (xs7.map .int))) t7 (.lst (bs.map enB)) a = some (.lst (xs7.map .int)) := by rw [put_ne ht7a.symm, put_same]
  simp only [seqAt_ref put_same, G3.wpSs, G3.wpS, G3.wpE, G3.wpEL, G3.wpO, G3.wpTO, G3.wpT, G3.wpAnd, G3.wpOr, G3.wpAndT, G3.wpOrT, G3.wpI, G3.wpG, G3.wpGs, G3.wipe3, G3.GV.d, G3.st3, G3.bi3, G3.me3, G3.Me.ty, G3.rets, List.replicate, G3.wl, Nat.reduceAdd, Nat.reduceSub, reduceIte]
  refine right_step e7 (by omega) (by omega) (by omega) (by omega) hbl fun M8 g8 => ?_
  try simp only [G3.wpSs, G3.wpS, G3.wpE, G3.wpEL, G3.wpO, G3.wpTO, G3.wpT, G3.wpAnd, G3.wpOr, G3.wpAndT, G3.wpOrT, G3.wpI, G3.wpG, G3.wpGs, G3.wipe3, G3.GV.d, G3.st3, G3.bi3, G3.me3, G3.Me.ty, G3.rets, List.replicate, G3.wl, Nat.reduceAdd, Nat.reduceSub, reduceIte]
  exact MID _ _ _ _ _ _ _ _ ha (go7.trans g8)
end K83
set_option Elab.async false
set_option linter.all false
set_option maxRecDepth 100000
set_option maxHeartbeats 0
namespace K83
open PySem PySem.Spec PyProof.Rows L2 G3 G3w G5
/-! ### the end: facts by names -/
theorem facts {P : Program} {w : World} {K : PySem.W.Frag} {h : Heap} {mg : Str → Option Value} {f : PySem.Addr} (X : K.In h) (G : h.Ns mainGlobals mg) (hfa : mg ("law" : Str) = some (.ref f)) (c : SaysI fa im cn fn K) :
    ∃ fd : FuncData, (∀ (s : Shared) (v : Value), BindsTo s fd ⟨[v], []⟩ [("script", v)]) ∧ ∀ base : Heap, K.In base → base.Ns mainGlobals mg → FnOk P w K mg base CX0 28 f fd ["script"] (liftSp K sp_law) := by
  have hbl : ∀ x ∈ bl, mg x = none := free_all X G c fun x hx => List.mem_append_right _ (List.mem_map_of_mem hx)
  have him : ∀ p ∈ im, mg p.1 = some (.builtin p.2) := im_all X G c
  have hcn : ∀ p ∈ cn, ∃ v u, mg p.1 = some u ∧ RelV v u ∧ ∀ H, Rep K H v p.2.d := cn_all X G c
  have gl : ∀ x ∈ names, mg x = some (.ref (He.ga K x)) := fun x hx => glo_at X G c (List.mem_append_left _ (List.mem_map_of_mem hx))
  obtain ⟨e_linked_marks, F0_linked_marks⟩ := c.1.def_ 0 (d := d_linked_marks) rfl
  have F_linked_marks : FunD K "linked_marks" "linked_marks" (defArgs (top 2)) (defBody (top 2)) (defScope (top 2)) [] [] (He.ga K "linked_marks") e_linked_marks := F0_linked_marks
  have B_linked_marks : Binds K e_linked_marks ["period", "marks", "index"] [] := F_linked_marks.bindsN fun _ _ _ _ _ _ us hl => match us, hl with | [_, _, _], _ => rfl
  have M_linked_marks : mg (Str.ofString "linked_marks") = some (.ref (He.ga K "linked_marks")) := gl _ (List.mem_of_getElem? (show names[0]? = some (Str.ofString "linked_marks") from rfl))
  obtain ⟨e_height_chain, F0_height_chain⟩ := c.1.def_ 1 (d := d_height_chain) rfl
  have F_height_chain : FunD K "height_chain" "height_chain" (defArgs (top 3)) (defBody (top 3)) (defScope (top 3)) [] [] (He.ga K "height_chain") e_height_chain := F0_height_chain
  have B_height_chain : Binds K e_height_chain ["p", "q", "marks", "hour"] [] := F_height_chain.bindsN fun _ _ _ _ _ _ us hl => match us, hl with | [_, _, _, _], _ => rfl
  have M_height_chain : mg (Str.ofString "height_chain") = some (.ref (He.ga K "height_chain")) := gl _ (List.mem_of_getElem? (show names[1]? = some (Str.ofString "height_chain") from rfl))
  obtain ⟨e_joined_rests, F0_joined_rests⟩ := c.1.def_ 2 (d := d_joined_rests) rfl
  have F_joined_rests : FunD K "joined_rests" "joined_rests" (defArgs (top 4)) (defBody (top 4)) (defScope (top 4)) [] [] (He.ga K "joined_rests") e_joined_rests := F0_joined_rests
  have B_joined_rests : Binds K e_joined_rests ["p", "q", "hours"] [] := F_joined_rests.bindsN fun _ _ _ _ _ _ us hl => match us, hl with | [_, _, _], _ => rfl
  have M_joined_rests : mg (Str.ofString "joined_rests") = some (.ref (He.ga K "joined_rests")) := gl _ (List.mem_of_getElem? (show names[2]? = some (Str.ofString "joined_rests") from rfl))
  obtain ⟨e_count_parts, F0_count_parts⟩ := c.1.def_ 3 (d := d_count_parts) rfl
  have F_count_parts : FunD K "count_parts" "count_parts" (defArgs (top 6)) (defBody (top 6)) (defScope (top 6)) [] [] (He.ga K "count_parts") e_count_parts := F0_count_parts
  have B_count_parts : Binds K e_count_parts ["p", "q", "hours"] [] := F_count_parts.bindsN fun _ _ _ _ _ _ us hl => match us, hl with | [_, _, _], _ => rfl
  have M_count_parts : mg (Str.ofString "count_parts") = some (.ref (He.ga K "count_parts")) := gl _ (List.mem_of_getElem? (show names[3]? = some (Str.ofString "count_parts") from rfl))
  obtain ⟨e_does_tell_all, F0_does_tell_all⟩ := c.1.def_ 4 (d := d_does_tell_all) rfl
  have F_does_tell_all : FunD K "does_tell_all" "does_tell_all" (defArgs (top 7)) (defBody (top 7)) (defScope (top 7)) [] [] (He.ga K "does_tell_all") e_does_tell_all := F0_does_tell_all
  have B_does_tell_all : Binds K e_does_tell_all ["p", "q", "offers", "chosen"] [] := F_does_tell_all.bindsN fun _ _ _ _ _ _ us hl => match us, hl with | [_, _, _, _], _ => rfl
  have M_does_tell_all : mg (Str.ofString "does_tell_all") = some (.ref (He.ga K "does_tell_all")) := gl _ (List.mem_of_getElem? (show names[4]? = some (Str.ofString "does_tell_all") from rfl))
  obtain ⟨e_cheapest_reading, F0_cheapest_reading⟩ := c.1.def_ 5 (d := d_cheapest_reading) rfl
  have F_cheapest_reading : FunD K "cheapest_reading" "cheapest_reading" (defArgs (top 8)) (defBody (top 8)) (defScope (top 8)) [] [] (He.ga K "cheapest_reading") e_cheapest_reading := F0_cheapest_reading
  have B_cheapest_reading : Binds K e_cheapest_reading ["p", "q", "offers"] [] := F_cheapest_reading.bindsN fun _ _ _ _ _ _ us hl => match us, hl with | [_, _, _], _ => rfl
  have M_cheapest_reading : mg (Str.ofString "cheapest_reading") = some (.ref (He.ga K "cheapest_reading")) := gl _ (List.mem_of_getElem? (show names[5]? = some (Str.ofString "cheapest_reading") from rfl))
  obtain ⟨e_reading_cost, F0_reading_cost⟩ := c.1.def_ 6 (d := d_reading_cost) rfl
  have F_reading_cost : FunD K "reading_cost" "reading_cost" (defArgs (top 9)) (defBody (top 9)) (defScope (top 9)) [] [] (He.ga K "reading_cost") e_reading_cost := F0_reading_cost
  have B_reading_cost : Binds K e_reading_cost ["offers", "chosen"] [] := F_reading_cost.bindsN fun _ _ _ _ _ _ us hl => match us, hl with | [_, _], _ => rfl
  have M_reading_cost : mg (Str.ofString "reading_cost") = some (.ref (He.ga K "reading_cost")) := gl _ (List.mem_of_getElem? (show names[6]? = some (Str.ofString "reading_cost") from rfl))
  obtain ⟨e_first_gap, F0_first_gap⟩ := c.1.def_ 7 (d := d_first_gap) rfl
  have F_first_gap : FunD K "first_gap" "first_gap" (defArgs (top 10)) (defBody (top 10)) (defScope (top 10)) [] [] (He.ga K "first_gap") e_first_gap := F0_first_gap
  have B_first_gap : Binds K e_first_gap ["p", "q", "offers"] [] := F_first_gap.bindsN fun _ _ _ _ _ _ us hl => match us, hl with | [_, _, _], _ => rfl
  have M_first_gap : mg (Str.ofString "first_gap") = some (.ref (He.ga K "first_gap")) := gl _ (List.mem_of_getElem? (show names[7]? = some (Str.ofString "first_gap") from rfl))
  obtain ⟨e__law_draws, F0__law_draws⟩ := c.1.def_ 8 (d := d__law_draws) rfl
  have F__law_draws : FunD K "_law_draws" "_law_draws" (defArgs (top 12)) (defBody (top 12)) (defScope (top 12)) [] [] (He.ga K "_law_draws") e__law_draws := F0__law_draws
  have B__law_draws : Binds K e__law_draws ["script", "many"] [] := F__law_draws.bindsN fun _ _ _ _ _ _ us hl => match us, hl with | [_, _], _ => rfl
  have M__law_draws : mg (Str.ofString "_law_draws") = some (.ref (He.ga K "_law_draws")) := gl _ (List.mem_of_getElem? (show names[8]? = some (Str.ofString "_law_draws") from rfl))
  obtain ⟨e__law_take, F0__law_take⟩ := c.1.def_ 9 (d := d__law_take) rfl
  have F__law_take : FunD K "_law_take" "_law_take" (defArgs (top 13)) (defBody (top 13)) (defScope (top 13)) [] [] (He.ga K "_law_take") e__law_take := F0__law_take
  have B__law_take : Binds K e__law_take ["draws", "many"] [] := F__law_take.bindsN fun _ _ _ _ _ _ us hl => match us, hl with | [_, _], _ => rfl
  have M__law_take : mg (Str.ofString "_law_take") = some (.ref (He.ga K "_law_take")) := gl _ (List.mem_of_getElem? (show names[9]? = some (Str.ofString "_law_take") from rfl))
  obtain ⟨e__law_pick, F0__law_pick⟩ := c.1.def_ 10 (d := d__law_pick) rfl
  have F__law_pick : FunD K "_law_pick" "_law_pick" (defArgs (top 14)) (defBody (top 14)) (defScope (top 14)) [] [] (He.ga K "_law_pick") e__law_pick := F0__law_pick
  have B__law_pick : Binds K e__law_pick ["draws", "row"] [] := F__law_pick.bindsN fun _ _ _ _ _ _ us hl => match us, hl with | [_, _], _ => rfl
  have M__law_pick : mg (Str.ofString "_law_pick") = some (.ref (He.ga K "_law_pick")) := gl _ (List.mem_of_getElem? (show names[10]? = some (Str.ofString "_law_pick") from rfl))
  obtain ⟨e__law_same, F0__law_same⟩ := c.1.def_ 11 (d := d__law_same) rfl
  have F__law_same : FunD K "_law_same" "_law_same" (defArgs (top 15)) (defBody (top 15)) (defScope (top 15)) [] [] (He.ga K "_law_same") e__law_same := F0__law_same
  have B__law_same : Binds K e__law_same ["actual", "due"] [] := F__law_same.bindsN fun _ _ _ _ _ _ us hl => match us, hl with | [_, _], _ => rfl
  have M__law_same : mg (Str.ofString "_law_same") = some (.ref (He.ga K "_law_same")) := gl _ (List.mem_of_getElem? (show names[11]? = some (Str.ofString "_law_same") from rfl))
  obtain ⟨e__law_shuffled, F0__law_shuffled⟩ := c.1.def_ 12 (d := d__law_shuffled) rfl
  have F__law_shuffled : FunD K "_law_shuffled" "_law_shuffled" (defArgs (top 16)) (defBody (top 16)) (defScope (top 16)) [] [] (He.ga K "_law_shuffled") e__law_shuffled := F0__law_shuffled
  have B__law_shuffled : Binds K e__law_shuffled ["draws", "row"] [] := F__law_shuffled.bindsN fun _ _ _ _ _ _ us hl => match us, hl with | [_, _], _ => rfl
  have M__law_shuffled : mg (Str.ofString "_law_shuffled") = some (.ref (He.ga K "_law_shuffled")) := gl _ (List.mem_of_getElem? (show names[12]? = some (Str.ofString "_law_shuffled") from rfl))
  obtain ⟨e__law_gcd, F0__law_gcd⟩ := c.1.def_ 13 (d := d__law_gcd) rfl
  have F__law_gcd : FunD K "_law_gcd" "_law_gcd" (defArgs (top 17)) (defBody (top 17)) (defScope (top 17)) [] [] (He.ga K "_law_gcd") e__law_gcd := F0__law_gcd
  have B__law_gcd : Binds K e__law_gcd ["one", "other"] [] := F__law_gcd.bindsN fun _ _ _ _ _ _ us hl => match us, hl with | [_, _], _ => rfl
  have M__law_gcd : mg (Str.ofString "_law_gcd") = some (.ref (He.ga K "_law_gcd")) := gl _ (List.mem_of_getElem? (show names[13]? = some (Str.ofString "_law_gcd") from rfl))
  obtain ⟨e__law_tide_period, F0__law_tide_period⟩ := c.1.def_ 14 (d := d__law_tide_period) rfl
  have F__law_tide_period : FunD K "_law_tide_period" "_law_tide_period" (defArgs (top 18)) (defBody (top 18)) (defScope (top 18)) [] [] (He.ga K "_law_tide_period") e__law_tide_period := F0__law_tide_period
  have B__law_tide_period : Binds K e__law_tide_period ["draws"] [] := F__law_tide_period.bindsN fun _ _ _ _ _ _ us hl => match us, hl with | [_], _ => rfl
  have M__law_tide_period : mg (Str.ofString "_law_tide_period") = some (.ref (He.ga K "_law_tide_period")) := gl _ (List.mem_of_getElem? (show names[14]? = some (Str.ofString "_law_tide_period") from rfl))
  obtain ⟨e__law_tide_hour, F0__law_tide_hour⟩ := c.1.def_ 15 (d := d__law_tide_hour) rfl
  have F__law_tide_hour : FunD K "_law_tide_hour" "_law_tide_hour" (defArgs (top 19)) (defBody (top 19)) (defScope (top 19)) [] [] (He.ga K "_law_tide_hour") e__law_tide_hour := F0__law_tide_hour
  have B__law_tide_hour : Binds K e__law_tide_hour ["draws", "few"] [] := F__law_tide_hour.bindsN fun _ _ _ _ _ _ us hl => match us, hl with | [_, _], _ => rfl
  have M__law_tide_hour : mg (Str.ofString "_law_tide_hour") = some (.ref (He.ga K "_law_tide_hour")) := gl _ (List.mem_of_getElem? (show names[15]? = some (Str.ofString "_law_tide_hour") from rfl))
  obtain ⟨e__law_tide_parts, F0__law_tide_parts⟩ := c.1.def_ 16 (d := d__law_tide_parts) rfl
  have F__law_tide_parts : FunD K "_law_tide_parts" "_law_tide_parts" (defArgs (top 20)) (defBody (top 20)) (defScope (top 20)) [] [] (He.ga K "_law_tide_parts") e__law_tide_parts := F0__law_tide_parts
  have B__law_tide_parts : Binds K e__law_tide_parts ["p", "q", "marks"] [] := F__law_tide_parts.bindsN fun _ _ _ _ _ _ us hl => match us, hl with | [_, _, _], _ => rfl
  have M__law_tide_parts : mg (Str.ofString "_law_tide_parts") = some (.ref (He.ga K "_law_tide_parts")) := gl _ (List.mem_of_getElem? (show names[16]? = some (Str.ofString "_law_tide_parts") from rfl))
  obtain ⟨e__law_edge_places, F0__law_edge_places⟩ := c.1.def_ 17 (d := d__law_edge_places) rfl
  have F__law_edge_places : FunD K "_law_edge_places" "_law_edge_places" (defArgs (top 21)) (defBody (top 21)) (defScope (top 21)) [] [] (He.ga K "_law_edge_places") e__law_edge_places := F0__law_edge_places
  have B__law_edge_places : Binds K e__law_edge_places ["p", "q", "hour"] [] := F__law_edge_places.bindsN fun _ _ _ _ _ _ us hl => match us, hl with | [_, _, _], _ => rfl
  have M__law_edge_places : mg (Str.ofString "_law_edge_places") = some (.ref (He.ga K "_law_edge_places")) := gl _ (List.mem_of_getElem? (show names[17]? = some (Str.ofString "_law_edge_places") from rfl))
  obtain ⟨e__law_joined_parts, F0__law_joined_parts⟩ := c.1.def_ 18 (d := d__law_joined_parts) rfl
  have F__law_joined_parts : FunD K "_law_joined_parts" "_law_joined_parts" (defArgs (top 22)) (defBody (top 22)) (defScope (top 22)) [] [] (He.ga K "_law_joined_parts") e__law_joined_parts := F0__law_joined_parts
  have B__law_joined_parts : Binds K e__law_joined_parts ["p", "q", "hours"] [] := F__law_joined_parts.bindsN fun _ _ _ _ _ _ us hl => match us, hl with | [_, _, _], _ => rfl
  have M__law_joined_parts : mg (Str.ofString "_law_joined_parts") = some (.ref (He.ga K "_law_joined_parts")) := gl _ (List.mem_of_getElem? (show names[18]? = some (Str.ofString "_law_joined_parts") from rfl))
  obtain ⟨e__law_tells_all, F0__law_tells_all⟩ := c.1.def_ 19 (d := d__law_tells_all) rfl
  have F__law_tells_all : FunD K "_law_tells_all" "_law_tells_all" (defArgs (top 23)) (defBody (top 23)) (defScope (top 23)) [] [] (He.ga K "_law_tells_all") e__law_tells_all := F0__law_tells_all
  have B__law_tells_all : Binds K e__law_tells_all ["p", "q", "hours"] [] := F__law_tells_all.bindsN fun _ _ _ _ _ _ us hl => match us, hl with | [_, _, _], _ => rfl
  have M__law_tells_all : mg (Str.ofString "_law_tells_all") = some (.ref (He.ga K "_law_tells_all")) := gl _ (List.mem_of_getElem? (show names[19]? = some (Str.ofString "_law_tells_all") from rfl))
  obtain ⟨e__law_cheapest, F0__law_cheapest⟩ := c.1.def_ 20 (d := d__law_cheapest) rfl
  have F__law_cheapest : FunD K "_law_cheapest" "_law_cheapest" (defArgs (top 24)) (defBody (top 24)) (defScope (top 24)) [] [] (He.ga K "_law_cheapest") e__law_cheapest := F0__law_cheapest
  have B__law_cheapest : Binds K e__law_cheapest ["p", "q", "offers"] [] := F__law_cheapest.bindsN fun _ _ _ _ _ _ us hl => match us, hl with | [_, _, _], _ => rfl
  have M__law_cheapest : mg (Str.ofString "_law_cheapest") = some (.ref (He.ga K "_law_cheapest")) := gl _ (List.mem_of_getElem? (show names[20]? = some (Str.ofString "_law_cheapest") from rfl))
  obtain ⟨e__law_gap, F0__law_gap⟩ := c.1.def_ 21 (d := d__law_gap) rfl
  have F__law_gap : FunD K "_law_gap" "_law_gap" (defArgs (top 25)) (defBody (top 25)) (defScope (top 25)) [] [] (He.ga K "_law_gap") e__law_gap := F0__law_gap
  have B__law_gap : Binds K e__law_gap ["p", "q", "offers"] [] := F__law_gap.bindsN fun _ _ _ _ _ _ us hl => match us, hl with | [_, _, _], _ => rfl
  have M__law_gap : mg (Str.ofString "_law_gap") = some (.ref (He.ga K "_law_gap")) := gl _ (List.mem_of_getElem? (show names[21]? = some (Str.ofString "_law_gap") from rfl))
  obtain ⟨e__law_offers_are_right, F0__law_offers_are_right⟩ := c.1.def_ 22 (d := d__law_offers_are_right) rfl
  have F__law_offers_are_right : FunD K "_law_offers_are_right" "_law_offers_are_right" (defArgs (top 26)) (defBody (top 26)) (defScope (top 26)) [] [] (He.ga K "_law_offers_are_right") e__law_offers_are_right := F0__law_offers_are_right
  have B__law_offers_are_right : Binds K e__law_offers_are_right ["draws", "p", "q", "offers"] [] := F__law_offers_are_right.bindsN fun _ _ _ _ _ _ us hl => match us, hl with | [_, _, _, _], _ => rfl
  have M__law_offers_are_right : mg (Str.ofString "_law_offers_are_right") = some (.ref (He.ga K "_law_offers_are_right")) := gl _ (List.mem_of_getElem? (show names[22]? = some (Str.ofString "_law_offers_are_right") from rfl))
  obtain ⟨e__law_cost, F0__law_cost⟩ := c.1.def_ 23 (d := d__law_cost) rfl
  have F__law_cost : FunD K "_law_cost" "_law_cost" (defArgs (top 27)) (defBody (top 27)) (defScope (top 27)) [] [] (He.ga K "_law_cost") e__law_cost := F0__law_cost
  have B__law_cost : Binds K e__law_cost ["draws"] [] := F__law_cost.bindsN fun _ _ _ _ _ _ us hl => match us, hl with | [_], _ => rfl
  have M__law_cost : mg (Str.ofString "_law_cost") = some (.ref (He.ga K "_law_cost")) := gl _ (List.mem_of_getElem? (show names[23]? = some (Str.ofString "_law_cost") from rfl))
  obtain ⟨e_law, F0_law⟩ := c.1.def_ 24 (d := d_law) rfl
  have F_law : FunD K "law" "law" (defArgs (top 28)) (defBody (top 28)) (defScope (top 28)) [] [] (He.ga K "law") e_law := F0_law
  have e := hfa.symm.trans (gl "law" (List.mem_of_getElem? (show names[24]? = some ("law" : Str) from rfl)))
  cases e
  have b := FunD.bindsA (ps := ["script"]) F_law fun _ _ _ _ _ _ us hl => match us, hl with | [_], _ => rfl
  refine ⟨e_law, fun s v => b s [v] rfl, fun base _ _ => ?_⟩
  have G_linked_marks : GoodG P w K mg base 1 "linked_marks" (sp_linked_marks) := good_ok (nm := "linked_marks") F_linked_marks c_linked_marks s_linked_marks (b_linked_marks) (k_linked_marks) hbl him hcn M_linked_marks B_linked_marks (GoodL.all (l := callsSs (b_linked_marks)) (good := fun x s => GoodG P w K mg base 0 x s) (by simp only [b_linked_marks, callsSs, callsS, callsE, callsEL, callsO, callsI, List.append_nil, List.nil_append, List.cons_append, GoodL])) (sp_linked_marks) (by intro ds M Q h; first | (obtain ⟨rfl, _⟩ := h; rfl) | (obtain ⟨_, rfl, _⟩ := h; rfl) | (obtain ⟨_, _, rfl, _⟩ := h; rfl) | (obtain ⟨_, _, _, rfl, _⟩ := h; rfl) | (obtain ⟨_, _, _, _, rfl, _⟩ := h; rfl) | (obtain ⟨_, _, _, _, _, rfl, _⟩ := h; rfl) | (obtain ⟨_, _, _, _, _, _, rfl, _⟩ := h; rfl) | (obtain ⟨_, _, _, _, _, _, _, rfl, _⟩ := h; rfl) | (obtain ⟨_, _, _, _, _, _, _, _, rfl, _⟩ := h; rfl) | (obtain ⟨_, _, _, _, _, _, _, _, _, rfl, _⟩ := h; rfl) | (obtain ⟨_, _, _, _, _, _, _, _, _, _, rfl, _⟩ := h; rfl) | (obtain ⟨_, _, _, _, _, _, _, _, _, _, _, rfl, _⟩ := h; rfl) | (obtain ⟨_, _, _, _, _, _, _, _, _, _, _, _, rfl, _⟩ := h; rfl) | (obtain ⟨_, _, _, _, _, _, _, _, _, _, _, _, _, rfl, _⟩ := h; rfl)) (t_linked_marks)
  have G_height_chain : GoodG P w K mg base 2 "height_chain" (sp_height_chain) := good_ok (nm := "height_chain") F_height_chain c_height_chain s_height_chain (b_height_chain (sp_linked_marks)) (k_height_chain (sp_linked_marks)) hbl him hcn M_height_chain B_height_chain (GoodL.all (l := callsSs (b_height_chain (sp_linked_marks))) (good := fun x s => GoodG P w K mg base 1 x s) (by simp only [b_height_chain, r1_height_chain, r2_height_chain, callsSs, callsS, callsE, callsEL, callsO, callsI, List.append_nil, List.nil_append, List.cons_append, GoodL]; (repeat' apply And.intro) <;> first | exact trivial | exact G_linked_marks.mono (by decide))) (sp_height_chain) (by intro ds M Q h; first | (obtain ⟨rfl, _⟩ := h; rfl) | (obtain ⟨_, rfl, _⟩ := h; rfl) | (obtain ⟨_, _, rfl, _⟩ := h; rfl) | (obtain ⟨_, _, _, rfl, _⟩ := h; rfl) | (obtain ⟨_, _, _, _, rfl, _⟩ := h; rfl) | (obtain ⟨_, _, _, _, _, rfl, _⟩ := h; rfl) | (obtain ⟨_, _, _, _, _, _, rfl, _⟩ := h; rfl) | (obtain ⟨_, _, _, _, _, _, _, rfl, _⟩ := h; rfl) | (obtain ⟨_, _, _, _, _, _, _, _, rfl, _⟩ := h; rfl) | (obtain ⟨_, _, _, _, _, _, _, _, _, rfl, _⟩ := h; rfl) | (obtain ⟨_, _, _, _, _, _, _, _, _, _, rfl, _⟩ := h; rfl) | (obtain ⟨_, _, _, _, _, _, _, _, _, _, _, rfl, _⟩ := h; rfl) | (obtain ⟨_, _, _, _, _, _, _, _, _, _, _, _, rfl, _⟩ := h; rfl) | (obtain ⟨_, _, _, _, _, _, _, _, _, _, _, _, _, rfl, _⟩ := h; rfl)) (t_height_chain)
  have G__law_take : GoodG P w K mg base 3 "_law_take" (sp__law_take) := good_ok (nm := "_law_take") F__law_take c__law_take s__law_take (b__law_take) (k__law_take) hbl him hcn M__law_take B__law_take (GoodL.all (l := callsSs (b__law_take)) (good := fun x s => GoodG P w K mg base 2 x s) (by simp only [b__law_take, r1__law_take, callsSs, callsS, callsE, callsEL, callsO, callsI, List.append_nil, List.nil_append, List.cons_append, GoodL])) (sp__law_take) (by intro ds M Q h; first | (obtain ⟨rfl, _⟩ := h; rfl) | (obtain ⟨_, rfl, _⟩ := h; rfl) | (obtain ⟨_, _, rfl, _⟩ := h; rfl) | (obtain ⟨_, _, _, rfl, _⟩ := h; rfl) | (obtain ⟨_, _, _, _, rfl, _⟩ := h; rfl) | (obtain ⟨_, _, _, _, _, rfl, _⟩ := h; rfl) | (obtain ⟨_, _, _, _, _, _, rfl, _⟩ := h; rfl) | (obtain ⟨_, _, _, _, _, _, _, rfl, _⟩ := h; rfl) | (obtain ⟨_, _, _, _, _, _, _, _, rfl, _⟩ := h; rfl) | (obtain ⟨_, _, _, _, _, _, _, _, _, rfl, _⟩ := h; rfl) | (obtain ⟨_, _, _, _, _, _, _, _, _, _, rfl, _⟩ := h; rfl) | (obtain ⟨_, _, _, _, _, _, _, _, _, _, _, rfl, _⟩ := h; rfl) | (obtain ⟨_, _, _, _, _, _, _, _, _, _, _, _, rfl, _⟩ := h; rfl) | (obtain ⟨_, _, _, _, _, _, _, _, _, _, _, _, _, rfl, _⟩ := h; rfl)) (t__law_take)
  have G0__law_same : GoodG P w K mg base 0 "_law_same" (sp__law_same 0) := good_no F__law_same M__law_same B__law_same _ (fun _ _ _ ⟨_, _, _, h, _⟩ => h.elim)
  have G1__law_same : GoodG P w K mg base 5 "_law_same" (sp__law_same 1) := good_ok (nm := "_law_same") F__law_same c__law_same s__law_same (b__law_same (sp__law_same 0)) (k__law_same (sp__law_same 0)) hbl him hcn M__law_same B__law_same (GoodL.all (l := callsSs (b__law_same (sp__law_same 0))) (good := fun x s => GoodG P w K mg base 4 x s) (by simp only [b__law_same, r2__law_same, r1__law_same, r5__law_same, r4__law_same, r3__law_same, callsSs, callsS, callsE, callsEL, callsO, callsI, List.append_nil, List.nil_append, List.cons_append, GoodL]; (repeat' apply And.intro) <;> first | exact trivial | exact G0__law_same.mono (by decide))) (sp__law_same 1) (by intro ds M Q h; first | (obtain ⟨rfl, _⟩ := h; rfl) | (obtain ⟨_, rfl, _⟩ := h; rfl) | (obtain ⟨_, _, rfl, _⟩ := h; rfl) | (obtain ⟨_, _, _, rfl, _⟩ := h; rfl) | (obtain ⟨_, _, _, _, rfl, _⟩ := h; rfl) | (obtain ⟨_, _, _, _, _, rfl, _⟩ := h; rfl) | (obtain ⟨_, _, _, _, _, _, rfl, _⟩ := h; rfl) | (obtain ⟨_, _, _, _, _, _, _, rfl, _⟩ := h; rfl) | (obtain ⟨_, _, _, _, _, _, _, _, rfl, _⟩ := h; rfl) | (obtain ⟨_, _, _, _, _, _, _, _, _, rfl, _⟩ := h; rfl) | (obtain ⟨_, _, _, _, _, _, _, _, _, _, rfl, _⟩ := h; rfl) | (obtain ⟨_, _, _, _, _, _, _, _, _, _, _, rfl, _⟩ := h; rfl) | (obtain ⟨_, _, _, _, _, _, _, _, _, _, _, _, rfl, _⟩ := h; rfl) | (obtain ⟨_, _, _, _, _, _, _, _, _, _, _, _, _, rfl, _⟩ := h; rfl)) (t__law_same 0)
  have G2__law_same : GoodG P w K mg base 6 "_law_same" (sp__law_same 2) := good_ok (nm := "_law_same") F__law_same c__law_same s__law_same (b__law_same (sp__law_same 1)) (k__law_same (sp__law_same 1)) hbl him hcn M__law_same B__law_same (GoodL.all (l := callsSs (b__law_same (sp__law_same 1))) (good := fun x s => GoodG P w K mg base 5 x s) (by simp only [b__law_same, r2__law_same, r1__law_same, r5__law_same, r4__law_same, r3__law_same, callsSs, callsS, callsE, callsEL, callsO, callsI, List.append_nil, List.nil_append, List.cons_append, GoodL]; (repeat' apply And.intro) <;> first | exact trivial | exact G1__law_same.mono (by decide))) (sp__law_same 2) (by intro ds M Q h; first | (obtain ⟨rfl, _⟩ := h; rfl) | (obtain ⟨_, rfl, _⟩ := h; rfl) | (obtain ⟨_, _, rfl, _⟩ := h; rfl) | (obtain ⟨_, _, _, rfl, _⟩ := h; rfl) | (obtain ⟨_, _, _, _, rfl, _⟩ := h; rfl) | (obtain ⟨_, _, _, _, _, rfl, _⟩ := h; rfl) | (obtain ⟨_, _, _, _, _, _, rfl, _⟩ := h; rfl) | (obtain ⟨_, _, _, _, _, _, _, rfl, _⟩ := h; rfl) | (obtain ⟨_, _, _, _, _, _, _, _, rfl, _⟩ := h; rfl) | (obtain ⟨_, _, _, _, _, _, _, _, _, rfl, _⟩ := h; rfl) | (obtain ⟨_, _, _, _, _, _, _, _, _, _, rfl, _⟩ := h; rfl) | (obtain ⟨_, _, _, _, _, _, _, _, _, _, _, rfl, _⟩ := h; rfl) | (obtain ⟨_, _, _, _, _, _, _, _, _, _, _, _, rfl, _⟩ := h; rfl) | (obtain ⟨_, _, _, _, _, _, _, _, _, _, _, _, _, rfl, _⟩ := h; rfl)) (t__law_same 1)
  have G__law_same : GoodG P w K mg base 7 "_law_same" (sp__law_same 3) := good_ok (nm := "_law_same") F__law_same c__law_same s__law_same (b__law_same (sp__law_same 2)) (k__law_same (sp__law_same 2)) hbl him hcn M__law_same B__law_same (GoodL.all (l := callsSs (b__law_same (sp__law_same 2))) (good := fun x s => GoodG P w K mg base 6 x s) (by simp only [b__law_same, r2__law_same, r1__law_same, r5__law_same, r4__law_same, r3__law_same, callsSs, callsS, callsE, callsEL, callsO, callsI, List.append_nil, List.nil_append, List.cons_append, GoodL]; (repeat' apply And.intro) <;> first | exact trivial | exact G2__law_same.mono (by decide))) (sp__law_same 3) (by intro ds M Q h; first | (obtain ⟨rfl, _⟩ := h; rfl) | (obtain ⟨_, rfl, _⟩ := h; rfl) | (obtain ⟨_, _, rfl, _⟩ := h; rfl) | (obtain ⟨_, _, _, rfl, _⟩ := h; rfl) | (obtain ⟨_, _, _, _, rfl, _⟩ := h; rfl) | (obtain ⟨_, _, _, _, _, rfl, _⟩ := h; rfl) | (obtain ⟨_, _, _, _, _, _, rfl, _⟩ := h; rfl) | (obtain ⟨_, _, _, _, _, _, _, rfl, _⟩ := h; rfl) | (obtain ⟨_, _, _, _, _, _, _, _, rfl, _⟩ := h; rfl) | (obtain ⟨_, _, _, _, _, _, _, _, _, rfl, _⟩ := h; rfl) | (obtain ⟨_, _, _, _, _, _, _, _, _, _, rfl, _⟩ := h; rfl) | (obtain ⟨_, _, _, _, _, _, _, _, _, _, _, rfl, _⟩ := h; rfl) | (obtain ⟨_, _, _, _, _, _, _, _, _, _, _, _, rfl, _⟩ := h; rfl) | (obtain ⟨_, _, _, _, _, _, _, _, _, _, _, _, _, rfl, _⟩ := h; rfl)) (t__law_same 2)
  have G_reading_cost : GoodG P w K mg base 8 "reading_cost" (sp_reading_cost) := good_ok (nm := "reading_cost") F_reading_cost c_reading_cost s_reading_cost (b_reading_cost) (k_reading_cost) hbl him hcn M_reading_cost B_reading_cost (GoodL.all (l := callsSs (b_reading_cost)) (good := fun x s => GoodG P w K mg base 7 x s) (by simp only [b_reading_cost, callsSs, callsS, callsE, callsEL, callsO, callsI, List.append_nil, List.nil_append, List.cons_append, GoodL])) (sp_reading_cost) (by intro ds M Q h; first | (obtain ⟨rfl, _⟩ := h; rfl) | (obtain ⟨_, rfl, _⟩ := h; rfl) | (obtain ⟨_, _, rfl, _⟩ := h; rfl) | (obtain ⟨_, _, _, rfl, _⟩ := h; rfl) | (obtain ⟨_, _, _, _, rfl, _⟩ := h; rfl) | (obtain ⟨_, _, _, _, _, rfl, _⟩ := h; rfl) | (obtain ⟨_, _, _, _, _, _, rfl, _⟩ := h; rfl) | (obtain ⟨_, _, _, _, _, _, _, rfl, _⟩ := h; rfl) | (obtain ⟨_, _, _, _, _, _, _, _, rfl, _⟩ := h; rfl) | (obtain ⟨_, _, _, _, _, _, _, _, _, rfl, _⟩ := h; rfl) | (obtain ⟨_, _, _, _, _, _, _, _, _, _, rfl, _⟩ := h; rfl) | (obtain ⟨_, _, _, _, _, _, _, _, _, _, _, rfl, _⟩ := h; rfl) | (obtain ⟨_, _, _, _, _, _, _, _, _, _, _, _, rfl, _⟩ := h; rfl) | (obtain ⟨_, _, _, _, _, _, _, _, _, _, _, _, _, rfl, _⟩ := h; rfl)) (t_reading_cost)
  have G_joined_rests : GoodG P w K mg base 9 "joined_rests" (G5.sp_joined_rests) := good_ok (nm := "joined_rests") F_joined_rests c_joined_rests s_joined_rests (b_joined_rests) (k_joined_rests) hbl him hcn M_joined_rests B_joined_rests (GoodL.all (l := callsSs (b_joined_rests)) (good := fun x s => GoodG P w K mg base 8 x s) (by simp only [b_joined_rests, r1_joined_rests, callsSs, callsS, callsE, callsEL, callsO, callsI, List.append_nil, List.nil_append, List.cons_append, GoodL])) (G5.sp_joined_rests) (by intro ds M Q h; first | (obtain ⟨rfl, _⟩ := h; rfl) | (obtain ⟨_, rfl, _⟩ := h; rfl) | (obtain ⟨_, _, rfl, _⟩ := h; rfl) | (obtain ⟨_, _, _, rfl, _⟩ := h; rfl) | (obtain ⟨_, _, _, _, rfl, _⟩ := h; rfl) | (obtain ⟨_, _, _, _, _, rfl, _⟩ := h; rfl) | (obtain ⟨_, _, _, _, _, _, rfl, _⟩ := h; rfl) | (obtain ⟨_, _, _, _, _, _, _, rfl, _⟩ := h; rfl) | (obtain ⟨_, _, _, _, _, _, _, _, rfl, _⟩ := h; rfl) | (obtain ⟨_, _, _, _, _, _, _, _, _, rfl, _⟩ := h; rfl) | (obtain ⟨_, _, _, _, _, _, _, _, _, _, rfl, _⟩ := h; rfl) | (obtain ⟨_, _, _, _, _, _, _, _, _, _, _, rfl, _⟩ := h; rfl) | (obtain ⟨_, _, _, _, _, _, _, _, _, _, _, _, rfl, _⟩ := h; rfl) | (obtain ⟨_, _, _, _, _, _, _, _, _, _, _, _, _, rfl, _⟩ := h; rfl)) (G5.t_joined_rests)
  have G_count_parts : GoodG P w K mg base 10 "count_parts" (sp_count_parts) := good_ok (nm := "count_parts") F_count_parts c_count_parts s_count_parts (b_count_parts (G5.sp_joined_rests)) (k_count_parts (G5.sp_joined_rests)) hbl him hcn M_count_parts B_count_parts (GoodL.all (l := callsSs (b_count_parts (G5.sp_joined_rests))) (good := fun x s => GoodG P w K mg base 9 x s) (by simp only [b_count_parts, callsSs, callsS, callsE, callsEL, callsO, callsI, List.append_nil, List.nil_append, List.cons_append, GoodL]; (repeat' apply And.intro) <;> first | exact trivial | exact G_joined_rests.mono (by decide))) (sp_count_parts) (by intro ds M Q h; first | (obtain ⟨rfl, _⟩ := h; rfl) | (obtain ⟨_, rfl, _⟩ := h; rfl) | (obtain ⟨_, _, rfl, _⟩ := h; rfl) | (obtain ⟨_, _, _, rfl, _⟩ := h; rfl) | (obtain ⟨_, _, _, _, rfl, _⟩ := h; rfl) | (obtain ⟨_, _, _, _, _, rfl, _⟩ := h; rfl) | (obtain ⟨_, _, _, _, _, _, rfl, _⟩ := h; rfl) | (obtain ⟨_, _, _, _, _, _, _, rfl, _⟩ := h; rfl) | (obtain ⟨_, _, _, _, _, _, _, _, rfl, _⟩ := h; rfl) | (obtain ⟨_, _, _, _, _, _, _, _, _, rfl, _⟩ := h; rfl) | (obtain ⟨_, _, _, _, _, _, _, _, _, _, rfl, _⟩ := h; rfl) | (obtain ⟨_, _, _, _, _, _, _, _, _, _, _, rfl, _⟩ := h; rfl) | (obtain ⟨_, _, _, _, _, _, _, _, _, _, _, _, rfl, _⟩ := h; rfl) | (obtain ⟨_, _, _, _, _, _, _, _, _, _, _, _, _, rfl, _⟩ := h; rfl)) (t_count_parts)
  have G_does_tell_all : GoodG P w K mg base 11 "does_tell_all" (sp_does_tell_all) := good_ok (nm := "does_tell_all") F_does_tell_all c_does_tell_all s_does_tell_all (b_does_tell_all (sp_count_parts)) (k_does_tell_all (sp_count_parts)) hbl him hcn M_does_tell_all B_does_tell_all (GoodL.all (l := callsSs (b_does_tell_all (sp_count_parts))) (good := fun x s => GoodG P w K mg base 10 x s) (by simp only [b_does_tell_all, callsSs, callsS, callsE, callsEL, callsO, callsI, List.append_nil, List.nil_append, List.cons_append, GoodL]; (repeat' apply And.intro) <;> first | exact trivial | exact G_count_parts.mono (by decide))) (sp_does_tell_all) (by intro ds M Q h; first | (obtain ⟨rfl, _⟩ := h; rfl) | (obtain ⟨_, rfl, _⟩ := h; rfl) | (obtain ⟨_, _, rfl, _⟩ := h; rfl) | (obtain ⟨_, _, _, rfl, _⟩ := h; rfl) | (obtain ⟨_, _, _, _, rfl, _⟩ := h; rfl) | (obtain ⟨_, _, _, _, _, rfl, _⟩ := h; rfl) | (obtain ⟨_, _, _, _, _, _, rfl, _⟩ := h; rfl) | (obtain ⟨_, _, _, _, _, _, _, rfl, _⟩ := h; rfl) | (obtain ⟨_, _, _, _, _, _, _, _, rfl, _⟩ := h; rfl) | (obtain ⟨_, _, _, _, _, _, _, _, _, rfl, _⟩ := h; rfl) | (obtain ⟨_, _, _, _, _, _, _, _, _, _, rfl, _⟩ := h; rfl) | (obtain ⟨_, _, _, _, _, _, _, _, _, _, _, rfl, _⟩ := h; rfl) | (obtain ⟨_, _, _, _, _, _, _, _, _, _, _, _, rfl, _⟩ := h; rfl) | (obtain ⟨_, _, _, _, _, _, _, _, _, _, _, _, _, rfl, _⟩ := h; rfl)) (t_does_tell_all)
  have G__law_gcd : GoodG P w K mg base 12 "_law_gcd" (sp__law_gcd) := good_ok (nm := "_law_gcd") F__law_gcd c__law_gcd s__law_gcd (b__law_gcd) (k__law_gcd) hbl him hcn M__law_gcd B__law_gcd (GoodL.all (l := callsSs (b__law_gcd)) (good := fun x s => GoodG P w K mg base 11 x s) (by simp only [b__law_gcd, r1__law_gcd, r2__law_gcd, callsSs, callsS, callsE, callsEL, callsO, callsI, List.append_nil, List.nil_append, List.cons_append, GoodL])) (sp__law_gcd) (by intro ds M Q h; first | (obtain ⟨rfl, _⟩ := h; rfl) | (obtain ⟨_, rfl, _⟩ := h; rfl) | (obtain ⟨_, _, rfl, _⟩ := h; rfl) | (obtain ⟨_, _, _, rfl, _⟩ := h; rfl) | (obtain ⟨_, _, _, _, rfl, _⟩ := h; rfl) | (obtain ⟨_, _, _, _, _, rfl, _⟩ := h; rfl) | (obtain ⟨_, _, _, _, _, _, rfl, _⟩ := h; rfl) | (obtain ⟨_, _, _, _, _, _, _, rfl, _⟩ := h; rfl) | (obtain ⟨_, _, _, _, _, _, _, _, rfl, _⟩ := h; rfl) | (obtain ⟨_, _, _, _, _, _, _, _, _, rfl, _⟩ := h; rfl) | (obtain ⟨_, _, _, _, _, _, _, _, _, _, rfl, _⟩ := h; rfl) | (obtain ⟨_, _, _, _, _, _, _, _, _, _, _, rfl, _⟩ := h; rfl) | (obtain ⟨_, _, _, _, _, _, _, _, _, _, _, _, rfl, _⟩ := h; rfl) | (obtain ⟨_, _, _, _, _, _, _, _, _, _, _, _, _, rfl, _⟩ := h; rfl)) (t__law_gcd)
  have G__law_tide_parts : GoodG P w K mg base 13 "_law_tide_parts" (sp__law_tide_parts) := good_ok (nm := "_law_tide_parts") F__law_tide_parts c__law_tide_parts s__law_tide_parts (b__law_tide_parts) (k__law_tide_parts) hbl him hcn M__law_tide_parts B__law_tide_parts (GoodL.all (l := callsSs (b__law_tide_parts)) (good := fun x s => GoodG P w K mg base 12 x s) (by simp only [b__law_tide_parts, r1__law_tide_parts, r2__law_tide_parts, r3__law_tide_parts, callsSs, callsS, callsE, callsEL, callsO, callsI, List.append_nil, List.nil_append, List.cons_append, GoodL])) (sp__law_tide_parts) (by intro ds M Q h; first | (obtain ⟨rfl, _⟩ := h; rfl) | (obtain ⟨_, rfl, _⟩ := h; rfl) | (obtain ⟨_, _, rfl, _⟩ := h; rfl) | (obtain ⟨_, _, _, rfl, _⟩ := h; rfl) | (obtain ⟨_, _, _, _, rfl, _⟩ := h; rfl) | (obtain ⟨_, _, _, _, _, rfl, _⟩ := h; rfl) | (obtain ⟨_, _, _, _, _, _, rfl, _⟩ := h; rfl) | (obtain ⟨_, _, _, _, _, _, _, rfl, _⟩ := h; rfl) | (obtain ⟨_, _, _, _, _, _, _, _, rfl, _⟩ := h; rfl) | (obtain ⟨_, _, _, _, _, _, _, _, _, rfl, _⟩ := h; rfl) | (obtain ⟨_, _, _, _, _, _, _, _, _, _, rfl, _⟩ := h; rfl) | (obtain ⟨_, _, _, _, _, _, _, _, _, _, _, rfl, _⟩ := h; rfl) | (obtain ⟨_, _, _, _, _, _, _, _, _, _, _, _, rfl, _⟩ := h; rfl) | (obtain ⟨_, _, _, _, _, _, _, _, _, _, _, _, _, rfl, _⟩ := h; rfl)) (t__law_tide_parts)
  have G__law_joined_parts : GoodG P w K mg base 14 "_law_joined_parts" (sp__law_joined_parts) := good_ok (nm := "_law_joined_parts") F__law_joined_parts c__law_joined_parts s__law_joined_parts (b__law_joined_parts (sp__law_tide_parts)) (k__law_joined_parts (sp__law_tide_parts)) hbl him hcn M__law_joined_parts B__law_joined_parts (GoodL.all (l := callsSs (b__law_joined_parts (sp__law_tide_parts))) (good := fun x s => GoodG P w K mg base 13 x s) (by simp only [b__law_joined_parts, callsSs, callsS, callsE, callsEL, callsO, callsI, List.append_nil, List.nil_append, List.cons_append, GoodL]; (repeat' apply And.intro) <;> first | exact trivial | exact G__law_tide_parts.mono (by decide))) (sp__law_joined_parts) (by intro ds M Q h; first | (obtain ⟨rfl, _⟩ := h; rfl) | (obtain ⟨_, rfl, _⟩ := h; rfl) | (obtain ⟨_, _, rfl, _⟩ := h; rfl) | (obtain ⟨_, _, _, rfl, _⟩ := h; rfl) | (obtain ⟨_, _, _, _, rfl, _⟩ := h; rfl) | (obtain ⟨_, _, _, _, _, rfl, _⟩ := h; rfl) | (obtain ⟨_, _, _, _, _, _, rfl, _⟩ := h; rfl) | (obtain ⟨_, _, _, _, _, _, _, rfl, _⟩ := h; rfl) | (obtain ⟨_, _, _, _, _, _, _, _, rfl, _⟩ := h; rfl) | (obtain ⟨_, _, _, _, _, _, _, _, _, rfl, _⟩ := h; rfl) | (obtain ⟨_, _, _, _, _, _, _, _, _, _, rfl, _⟩ := h; rfl) | (obtain ⟨_, _, _, _, _, _, _, _, _, _, _, rfl, _⟩ := h; rfl) | (obtain ⟨_, _, _, _, _, _, _, _, _, _, _, _, rfl, _⟩ := h; rfl) | (obtain ⟨_, _, _, _, _, _, _, _, _, _, _, _, _, rfl, _⟩ := h; rfl)) (t__law_joined_parts)
  have G__law_tells_all : GoodG P w K mg base 15 "_law_tells_all" (sp__law_tells_all) := good_ok (nm := "_law_tells_all") F__law_tells_all c__law_tells_all s__law_tells_all (b__law_tells_all (sp__law_gcd) (sp__law_joined_parts)) (k__law_tells_all (sp__law_gcd) (sp__law_joined_parts)) hbl him hcn M__law_tells_all B__law_tells_all (GoodL.all (l := callsSs (b__law_tells_all (sp__law_gcd) (sp__law_joined_parts))) (good := fun x s => GoodG P w K mg base 14 x s) (by simp only [b__law_tells_all, callsSs, callsS, callsE, callsEL, callsO, callsI, List.append_nil, List.nil_append, List.cons_append, GoodL]; (repeat' apply And.intro) <;> first | exact trivial | exact G__law_gcd.mono (by decide) | exact G__law_joined_parts.mono (by decide))) (sp__law_tells_all) (by intro ds M Q h; first | (obtain ⟨rfl, _⟩ := h; rfl) | (obtain ⟨_, rfl, _⟩ := h; rfl) | (obtain ⟨_, _, rfl, _⟩ := h; rfl) | (obtain ⟨_, _, _, rfl, _⟩ := h; rfl) | (obtain ⟨_, _, _, _, rfl, _⟩ := h; rfl) | (obtain ⟨_, _, _, _, _, rfl, _⟩ := h; rfl) | (obtain ⟨_, _, _, _, _, _, rfl, _⟩ := h; rfl) | (obtain ⟨_, _, _, _, _, _, _, rfl, _⟩ := h; rfl) | (obtain ⟨_, _, _, _, _, _, _, _, rfl, _⟩ := h; rfl) | (obtain ⟨_, _, _, _, _, _, _, _, _, rfl, _⟩ := h; rfl) | (obtain ⟨_, _, _, _, _, _, _, _, _, _, rfl, _⟩ := h; rfl) | (obtain ⟨_, _, _, _, _, _, _, _, _, _, _, rfl, _⟩ := h; rfl) | (obtain ⟨_, _, _, _, _, _, _, _, _, _, _, _, rfl, _⟩ := h; rfl) | (obtain ⟨_, _, _, _, _, _, _, _, _, _, _, _, _, rfl, _⟩ := h; rfl)) (t__law_tells_all)
  have G__law_pick : GoodG P w K mg base 16 "_law_pick" (sp_pkB) := good_ok (nm := "_law_pick") F__law_pick c__law_pick s__law_pick (b__law_pick (sp__law_take)) (k__law_pick (sp__law_take)) hbl him hcn M__law_pick B__law_pick (GoodL.all (l := callsSs (b__law_pick (sp__law_take))) (good := fun x s => GoodG P w K mg base 15 x s) (by simp only [b__law_pick, callsSs, callsS, callsE, callsEL, callsO, callsI, List.append_nil, List.nil_append, List.cons_append, GoodL]; (repeat' apply And.intro) <;> first | exact trivial | exact G__law_take.mono (by decide))) (sp_pkB) (by intro ds M Q h; first | (obtain ⟨rfl, _⟩ := h; rfl) | (obtain ⟨_, rfl, _⟩ := h; rfl) | (obtain ⟨_, _, rfl, _⟩ := h; rfl) | (obtain ⟨_, _, _, rfl, _⟩ := h; rfl) | (obtain ⟨_, _, _, _, rfl, _⟩ := h; rfl) | (obtain ⟨_, _, _, _, _, rfl, _⟩ := h; rfl) | (obtain ⟨_, _, _, _, _, _, rfl, _⟩ := h; rfl) | (obtain ⟨_, _, _, _, _, _, _, rfl, _⟩ := h; rfl) | (obtain ⟨_, _, _, _, _, _, _, _, rfl, _⟩ := h; rfl) | (obtain ⟨_, _, _, _, _, _, _, _, _, rfl, _⟩ := h; rfl) | (obtain ⟨_, _, _, _, _, _, _, _, _, _, rfl, _⟩ := h; rfl) | (obtain ⟨_, _, _, _, _, _, _, _, _, _, _, rfl, _⟩ := h; rfl) | (obtain ⟨_, _, _, _, _, _, _, _, _, _, _, _, rfl, _⟩ := h; rfl) | (obtain ⟨_, _, _, _, _, _, _, _, _, _, _, _, _, rfl, _⟩ := h; rfl)) (t__law_pick)
  have G_first_gap : GoodG P w K mg base 17 "first_gap" (sp_first_gap) := good_ok (nm := "first_gap") F_first_gap c_first_gap s_first_gap (b_first_gap (G5.sp_joined_rests)) (k_first_gap (G5.sp_joined_rests)) hbl him hcn M_first_gap B_first_gap (GoodL.all (l := callsSs (b_first_gap (G5.sp_joined_rests))) (good := fun x s => GoodG P w K mg base 16 x s) (by simp only [b_first_gap, r1_first_gap, callsSs, callsS, callsE, callsEL, callsO, callsI, List.append_nil, List.nil_append, List.cons_append, GoodL]; (repeat' apply And.intro) <;> first | exact trivial | exact G_joined_rests.mono (by decide))) (sp_first_gap) (by intro ds M Q h; first | (obtain ⟨rfl, _⟩ := h; rfl) | (obtain ⟨_, rfl, _⟩ := h; rfl) | (obtain ⟨_, _, rfl, _⟩ := h; rfl) | (obtain ⟨_, _, _, rfl, _⟩ := h; rfl) | (obtain ⟨_, _, _, _, rfl, _⟩ := h; rfl) | (obtain ⟨_, _, _, _, _, rfl, _⟩ := h; rfl) | (obtain ⟨_, _, _, _, _, _, rfl, _⟩ := h; rfl) | (obtain ⟨_, _, _, _, _, _, _, rfl, _⟩ := h; rfl) | (obtain ⟨_, _, _, _, _, _, _, _, rfl, _⟩ := h; rfl) | (obtain ⟨_, _, _, _, _, _, _, _, _, rfl, _⟩ := h; rfl) | (obtain ⟨_, _, _, _, _, _, _, _, _, _, rfl, _⟩ := h; rfl) | (obtain ⟨_, _, _, _, _, _, _, _, _, _, _, rfl, _⟩ := h; rfl) | (obtain ⟨_, _, _, _, _, _, _, _, _, _, _, _, rfl, _⟩ := h; rfl) | (obtain ⟨_, _, _, _, _, _, _, _, _, _, _, _, _, rfl, _⟩ := h; rfl)) (t_first_gap)
  have G_cheapest_reading : GoodG P w K mg base 18 "cheapest_reading" (sp_cheapest_reading) := good_ok (nm := "cheapest_reading") F_cheapest_reading c_cheapest_reading s_cheapest_reading (b_cheapest_reading (sp_count_parts)) (k_cheapest_reading (sp_count_parts)) hbl him hcn M_cheapest_reading B_cheapest_reading (GoodL.all (l := callsSs (b_cheapest_reading (sp_count_parts))) (good := fun x s => GoodG P w K mg base 17 x s) (by simp only [b_cheapest_reading, r1_cheapest_reading, callsSs, callsS, callsE, callsEL, callsO, callsI, List.append_nil, List.nil_append, List.cons_append, GoodL]; (repeat' apply And.intro) <;> first | exact trivial | exact G_count_parts.mono (by decide))) (sp_cheapest_reading) (by intro ds M Q h; first | (obtain ⟨rfl, _⟩ := h; rfl) | (obtain ⟨_, rfl, _⟩ := h; rfl) | (obtain ⟨_, _, rfl, _⟩ := h; rfl) | (obtain ⟨_, _, _, rfl, _⟩ := h; rfl) | (obtain ⟨_, _, _, _, rfl, _⟩ := h; rfl) | (obtain ⟨_, _, _, _, _, rfl, _⟩ := h; rfl) | (obtain ⟨_, _, _, _, _, _, rfl, _⟩ := h; rfl) | (obtain ⟨_, _, _, _, _, _, _, rfl, _⟩ := h; rfl) | (obtain ⟨_, _, _, _, _, _, _, _, rfl, _⟩ := h; rfl) | (obtain ⟨_, _, _, _, _, _, _, _, _, rfl, _⟩ := h; rfl) | (obtain ⟨_, _, _, _, _, _, _, _, _, _, rfl, _⟩ := h; rfl) | (obtain ⟨_, _, _, _, _, _, _, _, _, _, _, rfl, _⟩ := h; rfl) | (obtain ⟨_, _, _, _, _, _, _, _, _, _, _, _, rfl, _⟩ := h; rfl) | (obtain ⟨_, _, _, _, _, _, _, _, _, _, _, _, _, rfl, _⟩ := h; rfl)) (t_cheapest_reading)
  have G__law_edge_places : GoodG P w K mg base 19 "_law_edge_places" (sp__law_edge_places) := good_ok (nm := "_law_edge_places") F__law_edge_places c__law_edge_places s__law_edge_places (b__law_edge_places) (k__law_edge_places) hbl him hcn M__law_edge_places B__law_edge_places (GoodL.all (l := callsSs (b__law_edge_places)) (good := fun x s => GoodG P w K mg base 18 x s) (by simp only [b__law_edge_places, callsSs, callsS, callsE, callsEL, callsO, callsI, List.append_nil, List.nil_append, List.cons_append, GoodL])) (sp__law_edge_places) (by intro ds M Q h; first | (obtain ⟨rfl, _⟩ := h; rfl) | (obtain ⟨_, rfl, _⟩ := h; rfl) | (obtain ⟨_, _, rfl, _⟩ := h; rfl) | (obtain ⟨_, _, _, rfl, _⟩ := h; rfl) | (obtain ⟨_, _, _, _, rfl, _⟩ := h; rfl) | (obtain ⟨_, _, _, _, _, rfl, _⟩ := h; rfl) | (obtain ⟨_, _, _, _, _, _, rfl, _⟩ := h; rfl) | (obtain ⟨_, _, _, _, _, _, _, rfl, _⟩ := h; rfl) | (obtain ⟨_, _, _, _, _, _, _, _, rfl, _⟩ := h; rfl) | (obtain ⟨_, _, _, _, _, _, _, _, _, rfl, _⟩ := h; rfl) | (obtain ⟨_, _, _, _, _, _, _, _, _, _, rfl, _⟩ := h; rfl) | (obtain ⟨_, _, _, _, _, _, _, _, _, _, _, rfl, _⟩ := h; rfl) | (obtain ⟨_, _, _, _, _, _, _, _, _, _, _, _, rfl, _⟩ := h; rfl) | (obtain ⟨_, _, _, _, _, _, _, _, _, _, _, _, _, rfl, _⟩ := h; rfl)) (t__law_edge_places)
  have G__law_gap : GoodG P w K mg base 20 "_law_gap" (sp_first_gap) := good_ok (nm := "_law_gap") F__law_gap c__law_gap s__law_gap (b__law_gap (sp__law_gcd) (sp__law_edge_places) (sp__law_joined_parts)) (k__law_gap (sp__law_gcd) (sp__law_edge_places) (sp__law_joined_parts)) hbl him hcn M__law_gap B__law_gap (GoodL.all (l := callsSs (b__law_gap (sp__law_gcd) (sp__law_edge_places) (sp__law_joined_parts))) (good := fun x s => GoodG P w K mg base 19 x s) (by simp only [b__law_gap, r1__law_gap, callsSs, callsS, callsE, callsEL, callsO, callsI, List.append_nil, List.nil_append, List.cons_append, GoodL]; (repeat' apply And.intro) <;> first | exact trivial | exact G__law_gcd.mono (by decide) | exact G__law_edge_places.mono (by decide) | exact G__law_joined_parts.mono (by decide))) (sp_first_gap) (by intro ds M Q h; first | (obtain ⟨rfl, _⟩ := h; rfl) | (obtain ⟨_, rfl, _⟩ := h; rfl) | (obtain ⟨_, _, rfl, _⟩ := h; rfl) | (obtain ⟨_, _, _, rfl, _⟩ := h; rfl) | (obtain ⟨_, _, _, _, rfl, _⟩ := h; rfl) | (obtain ⟨_, _, _, _, _, rfl, _⟩ := h; rfl) | (obtain ⟨_, _, _, _, _, _, rfl, _⟩ := h; rfl) | (obtain ⟨_, _, _, _, _, _, _, rfl, _⟩ := h; rfl) | (obtain ⟨_, _, _, _, _, _, _, _, rfl, _⟩ := h; rfl) | (obtain ⟨_, _, _, _, _, _, _, _, _, rfl, _⟩ := h; rfl) | (obtain ⟨_, _, _, _, _, _, _, _, _, _, rfl, _⟩ := h; rfl) | (obtain ⟨_, _, _, _, _, _, _, _, _, _, _, rfl, _⟩ := h; rfl) | (obtain ⟨_, _, _, _, _, _, _, _, _, _, _, _, rfl, _⟩ := h; rfl) | (obtain ⟨_, _, _, _, _, _, _, _, _, _, _, _, _, rfl, _⟩ := h; rfl)) (t__law_gap)
  have G__law_cheapest : GoodG P w K mg base 21 "_law_cheapest" (sp_cheapest_reading) := good_ok (nm := "_law_cheapest") F__law_cheapest c__law_cheapest s__law_cheapest (b__law_cheapest (sp__law_edge_places) (sp__law_joined_parts) (sp__law_tells_all)) (k__law_cheapest (sp__law_edge_places) (sp__law_joined_parts) (sp__law_tells_all)) hbl him hcn M__law_cheapest B__law_cheapest (GoodL.all (l := callsSs (b__law_cheapest (sp__law_edge_places) (sp__law_joined_parts) (sp__law_tells_all))) (good := fun x s => GoodG P w K mg base 20 x s) (by simp only [b__law_cheapest, r2__law_cheapest, r1__law_cheapest, callsSs, callsS, callsE, callsEL, callsO, callsI, List.append_nil, List.nil_append, List.cons_append, GoodL]; (repeat' apply And.intro) <;> first | exact trivial | exact G__law_edge_places.mono (by decide) | exact G__law_joined_parts.mono (by decide) | exact G__law_tells_all.mono (by decide))) (sp_cheapest_reading) (by intro ds M Q h; first | (obtain ⟨rfl, _⟩ := h; rfl) | (obtain ⟨_, rfl, _⟩ := h; rfl) | (obtain ⟨_, _, rfl, _⟩ := h; rfl) | (obtain ⟨_, _, _, rfl, _⟩ := h; rfl) | (obtain ⟨_, _, _, _, rfl, _⟩ := h; rfl) | (obtain ⟨_, _, _, _, _, rfl, _⟩ := h; rfl) | (obtain ⟨_, _, _, _, _, _, rfl, _⟩ := h; rfl) | (obtain ⟨_, _, _, _, _, _, _, rfl, _⟩ := h; rfl) | (obtain ⟨_, _, _, _, _, _, _, _, rfl, _⟩ := h; rfl) | (obtain ⟨_, _, _, _, _, _, _, _, _, rfl, _⟩ := h; rfl) | (obtain ⟨_, _, _, _, _, _, _, _, _, _, rfl, _⟩ := h; rfl) | (obtain ⟨_, _, _, _, _, _, _, _, _, _, _, rfl, _⟩ := h; rfl) | (obtain ⟨_, _, _, _, _, _, _, _, _, _, _, _, rfl, _⟩ := h; rfl) | (obtain ⟨_, _, _, _, _, _, _, _, _, _, _, _, _, rfl, _⟩ := h; rfl)) (t__law_cheapest)
  have G__law_offers_are_right : GoodG P w K mg base 22 "_law_offers_are_right" (sp__law_offers_are_right) := good_ok (nm := "_law_offers_are_right") F__law_offers_are_right c__law_offers_are_right s__law_offers_are_right (b__law_offers_are_right (sp_height_chain) (sp__law_take) (sp__law_same 3) (sp_reading_cost) (sp_does_tell_all) (sp__law_tells_all) (sp_pkB) (sp__law_gcd) (sp_first_gap) (sp_cheapest_reading) (sp_first_gap) (sp_cheapest_reading)) (k__law_offers_are_right (sp_height_chain) (sp__law_take) (sp__law_same 3) (sp_reading_cost) (sp_does_tell_all) (sp__law_tells_all) (sp_pkB) (sp__law_gcd) (sp_first_gap) (sp_cheapest_reading) (sp_first_gap) (sp_cheapest_reading)) hbl him hcn M__law_offers_are_right B__law_offers_are_right (GoodL.all (l := callsSs (b__law_offers_are_right (sp_height_chain) (sp__law_take) (sp__law_same 3) (sp_reading_cost) (sp_does_tell_all) (sp__law_tells_all) (sp_pkB) (sp__law_gcd) (sp_first_gap) (sp_cheapest_reading) (sp_first_gap) (sp_cheapest_reading))) (good := fun x s => GoodG P w K mg base 21 x s) (by simp only [b__law_offers_are_right, r4__law_offers_are_right, r3__law_offers_are_right, r6__law_offers_are_right, r5__law_offers_are_right, r2__law_offers_are_right, r1__law_offers_are_right, callsSs, callsS, callsE, callsEL, callsO, callsI, List.append_nil, List.nil_append, List.cons_append, GoodL]; (repeat' apply And.intro) <;> first | exact trivial | exact G_height_chain.mono (by decide) | exact G__law_take.mono (by decide) | exact G__law_same.mono (by decide) | exact G_reading_cost.mono (by decide) | exact G_does_tell_all.mono (by decide) | exact G__law_tells_all.mono (by decide) | exact G__law_pick.mono (by decide) | exact G__law_gcd.mono (by decide) | exact G_first_gap.mono (by decide) | exact G_cheapest_reading.mono (by decide) | exact G__law_gap.mono (by decide) | exact G__law_cheapest.mono (by decide))) (sp__law_offers_are_right) (by intro ds M Q h; first | (obtain ⟨rfl, _⟩ := h; rfl) | (obtain ⟨_, rfl, _⟩ := h; rfl) | (obtain ⟨_, _, rfl, _⟩ := h; rfl) | (obtain ⟨_, _, _, rfl, _⟩ := h; rfl) | (obtain ⟨_, _, _, _, rfl, _⟩ := h; rfl) | (obtain ⟨_, _, _, _, _, rfl, _⟩ := h; rfl) | (obtain ⟨_, _, _, _, _, _, rfl, _⟩ := h; rfl) | (obtain ⟨_, _, _, _, _, _, _, rfl, _⟩ := h; rfl) | (obtain ⟨_, _, _, _, _, _, _, _, rfl, _⟩ := h; rfl) | (obtain ⟨_, _, _, _, _, _, _, _, _, rfl, _⟩ := h; rfl) | (obtain ⟨_, _, _, _, _, _, _, _, _, _, rfl, _⟩ := h; rfl) | (obtain ⟨_, _, _, _, _, _, _, _, _, _, _, rfl, _⟩ := h; rfl) | (obtain ⟨_, _, _, _, _, _, _, _, _, _, _, _, rfl, _⟩ := h; rfl) | (obtain ⟨_, _, _, _, _, _, _, _, _, _, _, _, _, rfl, _⟩ := h; rfl)) (t__law_offers_are_right)
  have G__law_cost : GoodG P w K mg base 23 "_law_cost" (sp__law_cost) := good_ok (nm := "_law_cost") F__law_cost c__law_cost s__law_cost (b__law_cost (sp__law_take) (sp_pkB)) (k__law_cost (sp__law_take) (sp_pkB)) hbl him hcn M__law_cost B__law_cost (GoodL.all (l := callsSs (b__law_cost (sp__law_take) (sp_pkB))) (good := fun x s => GoodG P w K mg base 22 x s) (by simp only [b__law_cost, callsSs, callsS, callsE, callsEL, callsO, callsI, List.append_nil, List.nil_append, List.cons_append, GoodL]; (repeat' apply And.intro) <;> first | exact trivial | exact G__law_take.mono (by decide) | exact G__law_pick.mono (by decide))) (sp__law_cost) (by intro ds M Q h; first | (obtain ⟨rfl, _⟩ := h; rfl) | (obtain ⟨_, rfl, _⟩ := h; rfl) | (obtain ⟨_, _, rfl, _⟩ := h; rfl) | (obtain ⟨_, _, _, rfl, _⟩ := h; rfl) | (obtain ⟨_, _, _, _, rfl, _⟩ := h; rfl) | (obtain ⟨_, _, _, _, _, rfl, _⟩ := h; rfl) | (obtain ⟨_, _, _, _, _, _, rfl, _⟩ := h; rfl) | (obtain ⟨_, _, _, _, _, _, _, rfl, _⟩ := h; rfl) | (obtain ⟨_, _, _, _, _, _, _, _, rfl, _⟩ := h; rfl) | (obtain ⟨_, _, _, _, _, _, _, _, _, rfl, _⟩ := h; rfl) | (obtain ⟨_, _, _, _, _, _, _, _, _, _, rfl, _⟩ := h; rfl) | (obtain ⟨_, _, _, _, _, _, _, _, _, _, _, rfl, _⟩ := h; rfl) | (obtain ⟨_, _, _, _, _, _, _, _, _, _, _, _, rfl, _⟩ := h; rfl) | (obtain ⟨_, _, _, _, _, _, _, _, _, _, _, _, _, rfl, _⟩ := h; rfl)) (t__law_cost)
  have G__law_shuffled : GoodG P w K mg base 24 "_law_shuffled" (sp__law_shuffled) := good_ok (nm := "_law_shuffled") F__law_shuffled c__law_shuffled s__law_shuffled (b__law_shuffled (sp__law_take)) (k__law_shuffled (sp__law_take)) hbl him hcn M__law_shuffled B__law_shuffled (GoodL.all (l := callsSs (b__law_shuffled (sp__law_take))) (good := fun x s => GoodG P w K mg base 23 x s) (by simp only [b__law_shuffled, r1__law_shuffled, callsSs, callsS, callsE, callsEL, callsO, callsI, List.append_nil, List.nil_append, List.cons_append, GoodL]; (repeat' apply And.intro) <;> first | exact trivial | exact G__law_take.mono (by decide))) (sp__law_shuffled) (by intro ds M Q h; first | (obtain ⟨rfl, _⟩ := h; rfl) | (obtain ⟨_, rfl, _⟩ := h; rfl) | (obtain ⟨_, _, rfl, _⟩ := h; rfl) | (obtain ⟨_, _, _, rfl, _⟩ := h; rfl) | (obtain ⟨_, _, _, _, rfl, _⟩ := h; rfl) | (obtain ⟨_, _, _, _, _, rfl, _⟩ := h; rfl) | (obtain ⟨_, _, _, _, _, _, rfl, _⟩ := h; rfl) | (obtain ⟨_, _, _, _, _, _, _, rfl, _⟩ := h; rfl) | (obtain ⟨_, _, _, _, _, _, _, _, rfl, _⟩ := h; rfl) | (obtain ⟨_, _, _, _, _, _, _, _, _, rfl, _⟩ := h; rfl) | (obtain ⟨_, _, _, _, _, _, _, _, _, _, rfl, _⟩ := h; rfl) | (obtain ⟨_, _, _, _, _, _, _, _, _, _, _, rfl, _⟩ := h; rfl) | (obtain ⟨_, _, _, _, _, _, _, _, _, _, _, _, rfl, _⟩ := h; rfl) | (obtain ⟨_, _, _, _, _, _, _, _, _, _, _, _, _, rfl, _⟩ := h; rfl)) (t__law_shuffled)
  have G__law_tide_hour : GoodG P w K mg base 25 "_law_tide_hour" (sp__law_tide_hour) := good_ok (nm := "_law_tide_hour") F__law_tide_hour c__law_tide_hour s__law_tide_hour (b__law_tide_hour (sp__law_take) (sp_pkB)) (k__law_tide_hour (sp__law_take) (sp_pkB)) hbl him hcn M__law_tide_hour B__law_tide_hour (GoodL.all (l := callsSs (b__law_tide_hour (sp__law_take) (sp_pkB))) (good := fun x s => GoodG P w K mg base 24 x s) (by simp only [b__law_tide_hour, r1__law_tide_hour, callsSs, callsS, callsE, callsEL, callsO, callsI, List.append_nil, List.nil_append, List.cons_append, GoodL]; (repeat' apply And.intro) <;> first | exact trivial | exact G__law_take.mono (by decide) | exact G__law_pick.mono (by decide))) (sp__law_tide_hour) (by intro ds M Q h; first | (obtain ⟨rfl, _⟩ := h; rfl) | (obtain ⟨_, rfl, _⟩ := h; rfl) | (obtain ⟨_, _, rfl, _⟩ := h; rfl) | (obtain ⟨_, _, _, rfl, _⟩ := h; rfl) | (obtain ⟨_, _, _, _, rfl, _⟩ := h; rfl) | (obtain ⟨_, _, _, _, _, rfl, _⟩ := h; rfl) | (obtain ⟨_, _, _, _, _, _, rfl, _⟩ := h; rfl) | (obtain ⟨_, _, _, _, _, _, _, rfl, _⟩ := h; rfl) | (obtain ⟨_, _, _, _, _, _, _, _, rfl, _⟩ := h; rfl) | (obtain ⟨_, _, _, _, _, _, _, _, _, rfl, _⟩ := h; rfl) | (obtain ⟨_, _, _, _, _, _, _, _, _, _, rfl, _⟩ := h; rfl) | (obtain ⟨_, _, _, _, _, _, _, _, _, _, _, rfl, _⟩ := h; rfl) | (obtain ⟨_, _, _, _, _, _, _, _, _, _, _, _, rfl, _⟩ := h; rfl) | (obtain ⟨_, _, _, _, _, _, _, _, _, _, _, _, _, rfl, _⟩ := h; rfl)) (t__law_tide_hour)
  have G__law_tide_period : GoodG P w K mg base 26 "_law_tide_period" (sp__law_tide_period) := good_ok (nm := "_law_tide_period") F__law_tide_period c__law_tide_period s__law_tide_period (b__law_tide_period (sp__law_take)) (k__law_tide_period (sp__law_take)) hbl him hcn M__law_tide_period B__law_tide_period (GoodL.all (l := callsSs (b__law_tide_period (sp__law_take))) (good := fun x s => GoodG P w K mg base 25 x s) (by simp only [b__law_tide_period, r1__law_tide_period, callsSs, callsS, callsE, callsEL, callsO, callsI, List.append_nil, List.nil_append, List.cons_append, GoodL]; (repeat' apply And.intro) <;> first | exact trivial | exact G__law_take.mono (by decide))) (sp__law_tide_period) (by intro ds M Q h; first | (obtain ⟨rfl, _⟩ := h; rfl) | (obtain ⟨_, rfl, _⟩ := h; rfl) | (obtain ⟨_, _, rfl, _⟩ := h; rfl) | (obtain ⟨_, _, _, rfl, _⟩ := h; rfl) | (obtain ⟨_, _, _, _, rfl, _⟩ := h; rfl) | (obtain ⟨_, _, _, _, _, rfl, _⟩ := h; rfl) | (obtain ⟨_, _, _, _, _, _, rfl, _⟩ := h; rfl) | (obtain ⟨_, _, _, _, _, _, _, rfl, _⟩ := h; rfl) | (obtain ⟨_, _, _, _, _, _, _, _, rfl, _⟩ := h; rfl) | (obtain ⟨_, _, _, _, _, _, _, _, _, rfl, _⟩ := h; rfl) | (obtain ⟨_, _, _, _, _, _, _, _, _, _, rfl, _⟩ := h; rfl) | (obtain ⟨_, _, _, _, _, _, _, _, _, _, _, rfl, _⟩ := h; rfl) | (obtain ⟨_, _, _, _, _, _, _, _, _, _, _, _, rfl, _⟩ := h; rfl) | (obtain ⟨_, _, _, _, _, _, _, _, _, _, _, _, _, rfl, _⟩ := h; rfl)) (t__law_tide_period)
  have G__law_draws : GoodG P w K mg base 27 "_law_draws" (sp__law_draws) := good_ok (nm := "_law_draws") F__law_draws c__law_draws s__law_draws (b__law_draws) (k__law_draws) hbl him hcn M__law_draws B__law_draws (GoodL.all (l := callsSs (b__law_draws)) (good := fun x s => GoodG P w K mg base 26 x s) (by simp only [b__law_draws, r2__law_draws, r1__law_draws, callsSs, callsS, callsE, callsEL, callsO, callsI, List.append_nil, List.nil_append, List.cons_append, GoodL])) (sp__law_draws) (by intro ds M Q h; first | (obtain ⟨rfl, _⟩ := h; rfl) | (obtain ⟨_, rfl, _⟩ := h; rfl) | (obtain ⟨_, _, rfl, _⟩ := h; rfl) | (obtain ⟨_, _, _, rfl, _⟩ := h; rfl) | (obtain ⟨_, _, _, _, rfl, _⟩ := h; rfl) | (obtain ⟨_, _, _, _, _, rfl, _⟩ := h; rfl) | (obtain ⟨_, _, _, _, _, _, rfl, _⟩ := h; rfl) | (obtain ⟨_, _, _, _, _, _, _, rfl, _⟩ := h; rfl) | (obtain ⟨_, _, _, _, _, _, _, _, rfl, _⟩ := h; rfl) | (obtain ⟨_, _, _, _, _, _, _, _, _, rfl, _⟩ := h; rfl) | (obtain ⟨_, _, _, _, _, _, _, _, _, _, rfl, _⟩ := h; rfl) | (obtain ⟨_, _, _, _, _, _, _, _, _, _, _, rfl, _⟩ := h; rfl) | (obtain ⟨_, _, _, _, _, _, _, _, _, _, _, _, rfl, _⟩ := h; rfl) | (obtain ⟨_, _, _, _, _, _, _, _, _, _, _, _, _, rfl, _⟩ := h; rfl)) (t__law_draws)
  exact fn_ok (nm := "law") F_law c_law s_law (b_law (sp__law_offers_are_right) (sp__law_same 3) (sp_cheapest_reading) (sp__law_cost) (sp__law_take) (sp__law_shuffled) (sp__law_gcd) (sp__law_tide_hour) (sp__law_tide_period) (sp__law_draws)) (k_law (sp__law_offers_are_right) (sp__law_same 3) (sp_cheapest_reading) (sp__law_cost) (sp__law_take) (sp__law_shuffled) (sp__law_gcd) (sp__law_tide_hour) (sp__law_tide_period) (sp__law_draws)) hbl him hcn (GoodL.all (l := callsSs (b_law (sp__law_offers_are_right) (sp__law_same 3) (sp_cheapest_reading) (sp__law_cost) (sp__law_take) (sp__law_shuffled) (sp__law_gcd) (sp__law_tide_hour) (sp__law_tide_period) (sp__law_draws))) (good := fun x s => GoodG P w K mg base 27 x s) (by simp only [b_law, r2_law, r1_law, callsSs, callsS, callsE, callsEL, callsO, callsI, List.append_nil, List.nil_append, List.cons_append, GoodL]; (repeat' apply And.intro) <;> first | exact trivial | exact G__law_offers_are_right.mono (by decide) | exact G__law_same.mono (by decide) | exact G_cheapest_reading.mono (by decide) | exact G__law_cost.mono (by decide) | exact G__law_take.mono (by decide) | exact G__law_shuffled.mono (by decide) | exact G__law_gcd.mono (by decide) | exact G__law_tide_hour.mono (by decide) | exact G__law_tide_period.mono (by decide) | exact G__law_draws.mono (by decide))) sp_law (by intro ds M Q h; first | (obtain ⟨rfl, _⟩ := h; rfl) | (obtain ⟨_, rfl, _⟩ := h; rfl) | (obtain ⟨_, _, rfl, _⟩ := h; rfl) | (obtain ⟨_, _, _, rfl, _⟩ := h; rfl) | (obtain ⟨_, _, _, _, rfl, _⟩ := h; rfl) | (obtain ⟨_, _, _, _, _, rfl, _⟩ := h; rfl) | (obtain ⟨_, _, _, _, _, _, rfl, _⟩ := h; rfl) | (obtain ⟨_, _, _, _, _, _, _, rfl, _⟩ := h; rfl) | (obtain ⟨_, _, _, _, _, _, _, _, rfl, _⟩ := h; rfl) | (obtain ⟨_, _, _, _, _, _, _, _, _, rfl, _⟩ := h; rfl) | (obtain ⟨_, _, _, _, _, _, _, _, _, _, rfl, _⟩ := h; rfl) | (obtain ⟨_, _, _, _, _, _, _, _, _, _, _, rfl, _⟩ := h; rfl) | (obtain ⟨_, _, _, _, _, _, _, _, _, _, _, _, rfl, _⟩ := h; rfl) | (obtain ⟨_, _, _, _, _, _, _, _, _, _, _, _, _, rfl, _⟩ := h; rfl)) (t_law)
end K83
open PySem PySem.W PySem.Calls PyProof.Rows
theorem PySem.Challenge.cw_gristbytides_k83_cheapest_readings_holds : PySem.Challenge.rw_gristbytides_k83_cheapest_readings.Holds := by
  w_on; o_law
  refine HandSHeadRun.head_imp (r := OpenLaw.row PySem.Challenge.rw_gristbytides_k83_cheapest_readings) (q := view (OpenLaw.row PySem.Challenge.rw_gristbytides_k83_cheapest_readings).prog [0, 28]) (H := G3.hookI 4 K83.fa K83.im K83.cn K83.fn) (ob := K83.ob) (M := 8000) (loose := K83.loose) (d := HandSHeadRun.topDef (OpenLaw.row PySem.Challenge.rw_gristbytides_k83_cheapest_readings).prog 28) (kwd := []) K83.ob_eq
    K83.run (by kernel_rfl) (by kernel_rfl) (by kernel_rfl) (by rfl) (by first | assumption | decide +kernel) (by decide +kernel) ⟨rfl, rfl, rfl, rfl, rfl, by decide +kernel⟩ ?hw ?hc
  case hw => w_witness2
  case hc =>
    refine L2.walk_ofE (l := PySem.Challenge.rw_gristbytides_k83_cheapest_readings) (n := 63) (k := 28) (x := "script") (CX := L2.CX0) rfl (by decide) (by kernel_rfl) ⟨rfl, by decide, by decide⟩ ?F (fun _ _ _ _ z => z)
    intro w mg fa h Y G hmg0
    obtain ⟨K, KX, c⟩ := Y
    have hmg : mg ("law" : PySem.Str) = some (.ref fa) := by
      have e : (HandSHeadRun.topDef (OpenLaw.row PySem.Challenge.rw_gristbytides_k83_cheapest_readings).prog 28).name = ("law" : PySem.Str) := by kernel_rfl
      rw [← e]
      exact hmg0
    obtain ⟨fd, hb, hF⟩ := K83.facts (P := (PySem.Challenge.rw_gristbytides_k83_cheapest_readings).prog) (w := w) KX G hmg c
    exact ⟨K, fd, G3.liftSp K K83.sp_law, KX, hb, fun H a ns hl hO hS => G3.law_in hO hS ⟨ns, rfl, hl, rfl⟩ _, hF⟩
