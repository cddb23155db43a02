import PyProof.Rows.All
import Wide.All
import OpenK.AllK
import Wide.FinOn
import HandS.ForMost
import HandS.ForDict
import HandS.Flow
import HandS.Wide
import HandS.Gcd
import HandS.SortInts
import HandS.HeadHook2
import PyProof.Rows.TupAdd
import HandS.TupAny
import HandS.Style
import HandS.IsInst
import HandS.Conv
import KE.KMathGC
import HandS.More
import HandS.Rev
import HandS.Zip
import HandS.DictComp
import HandS.HeadEnd
import HandS.HeadHook1
import HandS.Head0
import HandS.Head1
import HandS.Head2
import HandS.Head3
import PySem.Challenge.RW_gristbytides_k82_periods_and_clocks
set_option Elab.async false
set_option linter.all false
set_option maxRecDepth 100000
set_option maxHeartbeats 4000000
/-! values by content -/
namespace G3
open PySem PySem.Spec PyProof.Rows L2

inductive D where
  | non | bl (b : Bool) | int (i : Int) | str (x : Str) | tup (l : List D) | cl (l : List D) | ref (a : Addr) | ty (n : String)

/-- a list that never changes: locked for good, or the module's own -/
def SqC (K : PySem.W.Frag) (H : Hp) (a : Addr) (xs : List V) : Prop :=
  (∃ o, H a = some (.frz o (.lst xs))) ∨
    ∃ (o : Obj) (its : Array Value) (n : Nat), K.lookup a = some o ∧ o.cls = .type "list" ∧ o.dict = none ∧ o.data = .seq its n ∧ its.size ≤ sizeLine ∧ Vals xs its.toList
theorem SqC.l {K : PySem.W.Frag} {H : Hp} {a : Addr} {xs : List V} (h : SqC K H a xs) : SqL K H a xs := by
  rcases h with ⟨o, h⟩ | h
  · exact .inl (.inr ⟨o, h⟩)
  · exact .inr h

mutual
inductive Rep (K : PySem.W.Frag) (H : Hp) : V → D → Prop
  | non : Rep K H .non .non
  | bl (b : Bool) : Rep K H (.bl b) (.bl b)
  | int (i : Int) : Rep K H (.int i) (.int i)
  | str (x : Str) : Rep K H (.str x) (.str x)
  | ty (n : String) : Rep K H (.ty n) (.ty n)
  | ref (a : Addr) : Rep K H (.ref a) (.ref a)
  | tup {a : Addr} {xs : List V} {ds : List D} : SqT K H a xs → Reps K H xs ds → Rep K H (.ref a) (.tup ds)
  | cl {a : Addr} {xs : List V} {ds : List D} : SqC K H a xs → Reps K H xs ds → Rep K H (.ref a) (.cl ds)
inductive Reps (K : PySem.W.Frag) (H : Hp) : List V → List D → Prop
  | nil : Reps K H [] []
  | cons {v : V} {vs : List V} {d : D} {ds : List D} : Rep K H v d → Reps K H vs ds → Reps K H (v :: vs) (d :: ds)
end

/-- tuples and lists that never change stand as they stood -/
structure Grow (K : PySem.W.Frag) (H H' : Hp) : Prop where
  tup : ∀ a xs, SqT K H a xs → SqT K H' a xs
  cl : ∀ a xs, SqC K H a xs → SqC K H' a xs
section
variable {K : PySem.W.Frag} {H H1 H2 H' : Hp}
theorem Grow.refl : Grow K H H := ⟨fun _ _ h => h, fun _ _ h => h⟩
theorem Grow.trans (a : Grow K H H1) (b : Grow K H1 H2) : Grow K H H2 := ⟨fun _ _ h => b.tup _ _ (a.tup _ _ h), fun _ _ h => b.cl _ _ (a.cl _ _ h)⟩
/-- a store to what is no tuple and not locked -/
theorem Grow.upd {p : Addr} {o : HO} (h : ∀ u, H p = some u → (∀ xs, u ≠ .tup xs) ∧ ∀ ob w, u ≠ .frz ob w) : Grow K H (upd H p o) := by
  have ne : ∀ a u, H a = some u → (∃ xs, u = .tup xs) ∨ (∃ ob w, u = .frz ob w) → a ≠ p := fun a u e k z => by
    subst z
    rcases k with ⟨xs, k⟩ | ⟨ob, w, k⟩
    · exact (h u e).1 xs k
    · exact (h u e).2 ob w k
  refine ⟨fun a xs q => ?_, fun a xs q => ?_⟩
  · rcases q with (q | ⟨ob, q⟩) | q
    · exact .inl (.inl (by rw [upd_ne (ne a _ q (.inl ⟨_, rfl⟩))]; exact q))
    · exact .inl (.inr ⟨ob, by rw [upd_ne (ne a _ q (.inr ⟨_, _, rfl⟩))]; exact q⟩)
    · exact .inr q
  · rcases q with ⟨ob, q⟩ | q
    · exact .inl ⟨ob, by rw [upd_ne (ne a _ q (.inr ⟨_, _, rfl⟩))]; exact q⟩
    · exact .inr q
theorem Grow.new {p : Addr} {o : HO} (h : H p = none) : Grow K H (L2.upd H p o) := Grow.upd fun u e => by rw [h] at e; cases e
theorem Grow.lst {p : Addr} {o : HO} {xs : List V} (h : H p = some (.lst xs)) : Grow K H (L2.upd H p o) := Grow.upd fun u e => by
  rw [h] at e; cases e
  exact ⟨fun _ => by simp, fun _ _ => by simp⟩
theorem Grow.dK {p : Addr} {o : HO} {xs : List (Key × V)} (h : H p = some (.dK xs)) : Grow K H (L2.upd H p o) := Grow.upd fun u e => by
  rw [h] at e; cases e
  exact ⟨fun _ => by simp, fun _ _ => by simp⟩
mutual
theorem Rep.mono (g : Grow K H H') : ∀ {v : V} (d : D), Rep K H v d → Rep K H' v d
  | _, .non, h => by cases h; exact .non
  | _, .bl b, h => by cases h; exact .bl b
  | _, .int i, h => by cases h; exact .int i
  | _, .str x, h => by cases h; exact .str x
  | _, .ty n, h => by cases h; exact .ty n
  | _, .ref a, h => by cases h; exact .ref a
  | _, .tup l, h => by
    cases h with
    | tup s r => exact .tup (g.tup _ _ s) (Reps.mono g l r)
  | _, .cl l, h => by
    cases h with
    | cl s r => exact .cl (g.cl _ _ s) (Reps.mono g l r)
theorem Reps.mono (g : Grow K H H') : ∀ {vs : List V} (ds : List D), Reps K H vs ds → Reps K H' vs ds
  | _, [], h => by cases h; exact .nil
  | _, d :: ds, h => by
    cases h with
    | cons r rs => exact .cons (Rep.mono g d r) (Reps.mono g ds rs)
end
theorem Reps.length : ∀ {vs : List V} {ds : List D}, Reps K H vs ds → vs.length = ds.length
  | _, [], h => by cases h; rfl
  | _, d :: ds, h => by
    cases h with
    | cons r rs => simp [Reps.length rs]
theorem Reps.get : ∀ {vs : List V} {ds : List D} {i : Nat} {d : D}, Reps K H vs ds → ds[i]? = some d → ∃ v, vs[i]? = some v ∧ Rep K H v d
  | _, [], _, _, _, e => by simp at e
  | _, d :: ds, 0, d', h, e => by
    cases h with
    | cons r rs =>
      simp at e; subst e
      exact ⟨_, rfl, r⟩
  | _, d :: ds, i + 1, d', h, e => by
    cases h with
    | cons r rs =>
      obtain ⟨v, e', r'⟩ := Reps.get (i := i) rs (by simpa using e)
      exact ⟨v, by simpa using e', r'⟩
theorem Reps.get' : ∀ {vs : List V} {ds : List D} {i : Nat} {v : V}, Reps K H vs ds → vs[i]? = some v → ∃ d, ds[i]? = some d ∧ Rep K H v d := fun {vs ds i v} r e => by
  have hl := r.length
  have hi : i < vs.length := (List.getElem?_eq_some_iff.mp e).1
  have hd : ds[i]? = some ds[i] := List.getElem?_eq_getElem (by omega)
  obtain ⟨w, e2, r2⟩ := r.get hd
  rw [e] at e2
  cases e2
  exact ⟨_, hd, r2⟩
theorem Reps.append : ∀ {vs ws : List V} {ds es : List D}, Reps K H vs ds → Reps K H ws es → Reps K H (vs ++ ws) (ds ++ es)
  | _, _, [], _, h, k => by cases h; exact k
  | _, _, d :: ds, _, h, k => by
    cases h with
    | cons r rs => exact .cons r (Reps.append rs k)
theorem Reps.take : ∀ {vs : List V} {ds : List D} (n : Nat), Reps K H vs ds → Reps K H (vs.take n) (ds.take n)
  | _, _, 0, _ => .nil
  | _, [], n + 1, h => by cases h; exact .nil
  | _, d :: ds, n + 1, h => by
    cases h with
    | cons r rs => exact .cons r (Reps.take n rs)
theorem Reps.drop : ∀ {vs : List V} {ds : List D} (n : Nat), Reps K H vs ds → Reps K H (vs.drop n) (ds.drop n)
  | _, _, 0, h => h
  | _, [], n + 1, h => by cases h; exact .nil
  | _, d :: ds, n + 1, h => by
    cases h with
    | cons r rs => exact Reps.drop n rs
theorem Reps.set {v : V} {d : D} (r : Rep K H v d) : ∀ {vs : List V} {ds : List D} (n : Nat), Reps K H vs ds → Reps K H (vs.set n v) (ds.set n d)
  | _, [], _, h => by cases h; exact .nil
  | _, _ :: _, 0, h => by
    cases h with
    | cons _ rs => exact .cons r rs
  | _, _ :: _, n + 1, h => by
    cases h with
    | cons r' rs => exact .cons r' (Reps.set r n rs)
theorem Reps.snoc {vs : List V} {ds : List D} {v : V} {d : D} (h : Reps K H vs ds) (r : Rep K H v d) : Reps K H (vs ++ [v]) (ds ++ [d]) := h.append (.cons r .nil)
theorem Reps.reverse : ∀ {vs : List V} {ds : List D}, Reps K H vs ds → Reps K H vs.reverse ds.reverse
  | _, [], h => by cases h; exact .nil
  | _, d :: ds, h => by
    cases h with
    | cons r rs => rw [List.reverse_cons, List.reverse_cons]; exact (Reps.reverse rs).snoc r
theorem Reps.dropLast {vs : List V} {ds : List D} (h : Reps K H vs ds) : Reps K H vs.dropLast ds.dropLast := by
  rw [List.dropLast_eq_take, List.dropLast_eq_take, h.length]; exact h.take _
theorem Reps.erase : ∀ {vs : List V} {ds : List D} (n : Nat), Reps K H vs ds → Reps K H (vs.eraseIdx n) (ds.eraseIdx n)
  | _, [], _, h => by cases h; exact .nil
  | _, _ :: _, 0, h => by
    cases h with
    | cons _ rs => exact rs
  | _, _ :: _, n + 1, h => by
    cases h with
    | cons r' rs => exact .cons r' (Reps.erase n rs)
theorem Reps.insert {v : V} {d : D} (r : Rep K H v d) : ∀ {vs : List V} {ds : List D} (n : Nat), Reps K H vs ds → Reps K H (vs.insertIdx n v) (ds.insertIdx n d)
  | _, _, 0, h => by simpa using .cons r h
  | _, [], n + 1, h => by cases h; simpa using .nil
  | _, _ :: _, n + 1, h => by
    cases h with
    | cons r' rs => simpa using .cons r' (Reps.insert r n rs)
theorem Reps.ints : ∀ {vs : List V} {ns : List Int}, Reps K H vs (ns.map D.int) → vs = ns.map V.int
  | _, [], h => by cases h; rfl
  | _, n :: ns, h => by
    cases h with
    | cons r rs => cases r; rw [Reps.ints rs]; rfl
theorem Reps.of_ints : ∀ (ns : List Int), Reps K H (ns.map V.int) (ns.map D.int)
  | [] => .nil
  | n :: ns => .cons (.int n) (Reps.of_ints ns)
theorem Reps.bls : ∀ {vs : List V} {ns : List Bool}, Reps K H vs (ns.map D.bl) → vs = ns.map V.bl
  | _, [], h => by cases h; rfl
  | _, n :: ns, h => by
    cases h with
    | cons r rs => cases r; rw [Reps.bls rs]; rfl

/-! ### the heap by content -/
inductive MO where
  | lst (l : List D)
  | dic (l : List (Key × D))
abbrev Mp := Addr → Option MO
def put (M : Mp) (a : Addr) (o : MO) : Mp := fun b => if b = a then some o else M b
theorem put_same {M : Mp} {a : Addr} {o : MO} : put M a o a = some o := if_pos rfl
theorem put_ne {M : Mp} {a b : Addr} {o : MO} (h : b ≠ a) : put M a o b = M b := if_neg h
def Sub (M M' : Mp) : Prop := ∀ a o, M a = some o → M' a = some o
theorem Sub.refl {M : Mp} : Sub M M := fun _ _ h => h
theorem Sub.trans {M M1 M2 : Mp} (a : Sub M M1) (b : Sub M1 M2) : Sub M M2 := fun _ _ h => b _ _ (a _ _ h)
theorem Sub.new {M : Mp} {p : Addr} {o : MO} (h : M p = none) : Sub M (put M p o) := fun a u e => by
  rw [put_ne (fun z => by subst z; rw [h] at e; cases e)]; exact e
theorem Sub.put {M M' : Mp} (s : Sub M M') (p : Addr) (o : MO) : Sub (put M p o) (put M' p o) := fun a u e => by
  by_cases h : a = p
  · subst h; rw [put_same] at e ⊢; exact e
  · rw [put_ne h] at e ⊢; exact s _ _ e
def MoOk (K : PySem.W.Frag) (H : Hp) (a : Addr) : MO → Prop
  | .lst ds => ∃ xs, H a = some (.lst xs) ∧ Reps K H xs ds
  | .dic kvs => ∃ ws, H a = some (.dK ws) ∧ Paired (fun (p : Key × V) (q : Key × D) => p.1 = q.1 ∧ Rep K H p.2 q.2) ws kvs
def HR (K : PySem.W.Frag) (M : Mp) (H : Hp) : Prop := ∀ a o, M a = some o → MoOk K H a o
theorem MoOk.mono (g : Grow K H H') {a : Addr} (e : H' a = H a) : ∀ {o : MO}, MoOk K H a o → MoOk K H' a o
  | .lst ds, ⟨xs, h, r⟩ => ⟨xs, e.trans h, r.mono g⟩
  | .dic kvs, ⟨xs, h, r⟩ => ⟨xs, e.trans h, Paired.mapP r fun p q z => ⟨z.1, Rep.mono g _ z.2⟩⟩
theorem MoOk.some {a : Addr} : ∀ {o : MO}, MoOk K H a o → ∃ u, H a = some u
  | .lst _, ⟨_, h, _⟩ => ⟨_, h⟩
  | .dic _, ⟨_, h, _⟩ => ⟨_, h⟩
theorem HR.none {M : Mp} (h : HR K M H) {p : Addr} (e : H p = none) : M p = none := by
  cases q : M p with
  | none => rfl
  | some o =>
    obtain ⟨u, e'⟩ := (h p o q).some
    rw [e] at e'; cases e'
theorem HR.sub {M M0 : Mp} (h : HR K M H) (s : Sub M0 M) : HR K M0 H := fun a o e => h a o (s a o e)
theorem HR.list {M : Mp} (h : HR K M H) {p : Addr} {ds : List D} (e : M p = some (.lst ds)) : ∃ xs, H p = some (.lst xs) ∧ Reps K H xs ds := h p _ e
theorem HR.dic {M : Mp} (h : HR K M H) {p : Addr} {ds : List (Key × D)} (e : M p = some (.dic ds)) : ∃ xs, H p = some (.dK xs) ∧ Paired (fun (p : Key × V) (q : Key × D) => p.1 = q.1 ∧ Rep K H p.2 q.2) xs ds := h p _ e
/-- a store -/
theorem HR.put {M : Mp} {p : Addr} {u : HO} {o : MO} (h : HR K M H) (g : Grow K H (upd H p u)) (n : MoOk K (upd H p u) p o) : HR K (put M p o) (upd H p u) := fun a o' e => by
  by_cases q : a = p
  · subst q; rw [put_same] at e; cases e; exact n
  · rw [put_ne q] at e
    exact (h a o' e).mono g (upd_ne q)
/-- a store to what M does not tell -/
theorem HR.upd {M : Mp} {p : Addr} {u : HO} (h : HR K M H) (g : Grow K H (L2.upd H p u)) (n : M p = .none) : HR K M (L2.upd H p u) := fun a o' e => by
  have q : a ≠ p := fun z => by subst z; rw [n] at e; cases e
  exact (h a o' e).mono g (upd_ne q)
theorem HR.putL {M : Mp} {p : Addr} {xs : List V} {ds : List D} (h : HR K M H) (g : Grow K H (L2.upd H p (.lst xs))) (r : Reps K H xs ds) : HR K (G3.put M p (.lst ds)) (L2.upd H p (.lst xs)) :=
  h.put g ⟨xs, upd_same, r.mono g⟩
end

/-! ### slots -/
abbrev S3 := List (Option D)
inductive Slots (K : PySem.W.Frag) (H : Hp) : L2.St → S3 → Prop
  | nil : Slots K H [] []
  | non {o : Option V} {σ : L2.St} {τ : S3} : Slots K H σ τ → Slots K H (o :: σ) (Option.none :: τ)
  | som {v : V} {d : D} {σ : L2.St} {τ : S3} : Rep K H v d → Slots K H σ τ → Slots K H (Option.some v :: σ) (Option.some d :: τ)
section
variable {K : PySem.W.Frag} {H H1 H2 H' : Hp}
theorem Slots.mono (g : Grow K H H') : ∀ {σ : L2.St} {τ : S3}, Slots K H σ τ → Slots K H' σ τ
  | _, _, .nil => .nil
  | _, _, .non r => .non (Slots.mono g r)
  | _, _, .som q r => .som (Rep.mono g _ q) (Slots.mono g r)
theorem Slots.get : ∀ {σ : L2.St} {τ : S3} {i : Nat} {d : D}, Slots K H σ τ → τ[i]? = some (some d) → ∃ v, σ[i]? = some (some v) ∧ Rep K H v d
  | _, _, _, _, .nil, e => by simp at e
  | _, _, 0, _, .non r, e => by simp at e
  | _, _, 0, _, .som q r, e => by simp at e; subst e; exact ⟨_, rfl, q⟩
  | _, _, i + 1, _, .non r, e => by
    obtain ⟨v, e', q⟩ := Slots.get (i := i) r (by simpa using e)
    exact ⟨v, by simpa using e', q⟩
  | _, _, i + 1, _, .som _ r, e => by
    obtain ⟨v, e', q⟩ := Slots.get (i := i) r (by simpa using e)
    exact ⟨v, by simpa using e', q⟩
theorem Slots.set {v : V} {d : D} (q : Rep K H v d) : ∀ {σ : L2.St} {τ : S3} (i : Nat), Slots K H σ τ → Slots K H (σ.set i (some v)) (τ.set i (some d))
  | _, _, _, .nil => .nil
  | _, _, 0, .non r => .som q r
  | _, _, 0, .som _ r => .som q r
  | _, _, i + 1, .non r => .non (Slots.set q i r)
  | _, _, i + 1, .som q' r => .som q' (Slots.set q i r)
theorem Slots.clear : ∀ {σ : L2.St} {τ : S3} (i : Nat), Slots K H σ τ → Slots K H (σ.set i none) (τ.set i none)
  | _, _, _, .nil => .nil
  | _, _, 0, .non r => .non r
  | _, _, 0, .som _ r => .non r
  | _, _, i + 1, .non r => .non (Slots.clear i r)
  | _, _, i + 1, .som q' r => .som q' (Slots.clear i r)
theorem Slots.nones : ∀ (n : Nat), Slots K H (List.replicate n none) (List.replicate n none)
  | 0 => .nil
  | n + 1 => .non (Slots.nones n)
theorem Slots.start : ∀ {vs : List V} {ds : List D} (n : Nat), Reps K H vs ds → Slots K H (vs.map some ++ List.replicate n none) (ds.map some ++ List.replicate n none)
  | _, [], n, h => by cases h; exact Slots.nones n
  | _, d :: ds, n, h => by
    cases h with
    | cons r rs => exact .som r (Slots.start n rs)
end
end G3
set_option Elab.async false
set_option linter.all false
set_option maxRecDepth 100000
set_option maxHeartbeats 4000000
/-! what operators and built-ins do to values by content -/
namespace G3
open PySem PySem.Spec PyProof.Rows L2

abbrev K3 := D → Mp → Prop
abbrev TE3 := S3 → Mp → K3 → Prop
abbrev TT3 := S3 → Mp → (Bool → Mp → Prop) → Prop
abbrev TA3 := S3 → Mp → (List D → Mp → Prop) → Prop
abbrev Sp3 := List D → Mp → K3 → Prop
abbrev R23 := D → D → Mp → K3 → Prop
/-- what is wanted of the value behind -/
def Lnk (K : PySem.W.Frag) (H : Hp) (Q3 : K3) (Q : VK) : Prop := ∀ v H' d M', Q3 d M' → Grow K H H' → HR K M' H' → Rep K H' v d → Q v H'
theorem Lnk.here {K : PySem.W.Frag} {H : Hp} {Q3 : K3} {Q : VK} (l : Lnk K H Q3 Q) {v : V} {d : D} {M : Mp} (h : HR K M H) (r : Rep K H v d) (q : Q3 d M) : Q v H := l v H d M q .refl h r
theorem Lnk.from {K : PySem.W.Frag} {H H1 : Hp} {Q3 : K3} {Q : VK} (l : Lnk K H Q3 Q) (g : Grow K H H1) : Lnk K H1 Q3 Q := fun v H' d M' q g' => l v H' d M' q (g.trans g')
def lift2 (K : PySem.W.Frag) (r : R23) : R2 := fun x y H Q => ∃ d e M Q3, HR K M H ∧ Rep K H x d ∧ Rep K H y e ∧ r d e M Q3 ∧ Lnk K H Q3 Q
def lift1 (K : PySem.W.Frag) (r : D → Mp → K3 → Prop) : V → Hp → VK → Prop := fun x H Q => ∃ d M Q3, HR K M H ∧ Rep K H x d ∧ r d M Q3 ∧ Lnk K H Q3 Q
def liftC (K : PySem.W.Frag) (r : List D → Mp → K3 → Prop) : List V → Hp → VK → Prop := fun xs H Q => ∃ ds M Q3, HR K M H ∧ Reps K H xs ds ∧ r ds M Q3 ∧ Lnk K H Q3 Q
def liftM (K : PySem.W.Frag) (r : D → List D → Mp → K3 → Prop) : V → List V → Hp → VK → Prop := fun x xs H Q => ∃ d ds M Q3, HR K M H ∧ Rep K H x d ∧ Reps K H xs ds ∧ r d ds M Q3 ∧ Lnk K H Q3 Q

/-! ### new objects -/
def newL (l : List D) : Mp → K3 → Prop := fun M Q => ∀ p, M p = none → Q (.ref p) (put M p (.lst l))
section
variable {K : PySem.W.Frag} {H : Hp} {M : Mp} {Q3 : K3} {Q : VK}
theorem newL_ok {xs : List V} {l : List D} (h : HR K M H) (r : Reps K H xs l) (q : newL l M Q3) (L : Lnk K H Q3 Q) : ∀ p, H p = none → Q (.ref p) (upd H p (.lst xs)) := fun p e =>
  L _ _ _ _ (q p (h.none e)) (.new e) (h.putL (.new e) r) (.ref p)
theorem newT_ok {xs : List V} {l : List D} (h : HR K M H) (r : Reps K H xs l) (q : Q3 (.tup l) M) (L : Lnk K H Q3 Q) : ∀ p, H p = none → Q (.ref p) (upd H p (.tup xs)) := fun p e =>
  L _ _ _ _ q (.new e) (h.upd (.new e) (h.none e)) (.tup (SqT.of upd_same) (r.mono (.new e)))
end

/-! ### arithmetic -/
inductive Bop | add | sub | mul | fdiv | mod | pow | shl | shr
def Bop.op : Bop → Operator
  | .add => .Add | .sub => .Sub | .mul => .Mult | .fdiv => .FloorDiv | .mod => .Mod | .pow => .Pow | .shl => .LShift | .shr => .RShift
/-- the bounds of a product -/
def MulOk (i j : Int) : Prop := (-(2 ^ 64) < i ∧ i < 2 ^ 64) ∨ (-(2 ^ 64) < j ∧ j < 2 ^ 64) ∨ i.natAbs.log2 + j.natAbs.log2 < 1000000
def DivOk (j : Int) : Prop := 0 < j ∧ (j < 1073741824 ∨ j.natAbs.log2 < 9000)
def getL (M : Mp) (p : Addr) : Option (List D) := match M p with
  | some (.lst l) => some l
  | _ => none
def bin3 : Bop → R23
  | .add, .int i, .int j, M, Q => Q (.int (i + j)) M
  | .add, .str x, .str y, M, Q => x.length + y.length ≤ sizeLine ∧ Q (.str (x ++ y)) M
  | .add, .tup a, .tup b, M, Q => a.length + b.length ≤ sizeLine ∧ Q (.tup (a ++ b)) M
  | .add, .ref p, .ref q, M, Q => ∃ a b, getL M p = some a ∧ getL M q = some b ∧ a.length + b.length ≤ sizeLine ∧ newL (a ++ b) M Q
  | .sub, .int i, .int j, M, Q => Q (.int (i - j)) M
  | .mul, .int i, .int j, M, Q => MulOk i j ∧ Q (.int (i * j)) M
  | .mul, .ref p, .int k, M, Q => ∃ a, getL M p = some a ∧ (-(2 ^ 63) ≤ k ∧ k < 2 ^ 63 ∧ a.length * k.toNat ≤ sizeLine) ∧ newL (List.replicate k.toNat a).flatten M Q
  | .fdiv, .int i, .int j, M, Q => DivOk j ∧ Q (.int (i / j)) M
  | .mod, .int i, .int j, M, Q => 0 < j ∧ Q (.int (i % j)) M
  | .pow, .int i, .int j, M, Q => CPow i j ∧ Q (.int (i ^ j.toNat)) M
  | .shl, .int i, .int j, M, Q => CPow i j ∧ Q (.int (i * 2 ^ j.toNat)) M
  | .shr, .int i, .int j, M, Q => 0 ≤ j ∧ Q (.int (i / 2 ^ j.toNat)) M
  | _, _, _, _, _ => False
theorem getL_some {M : Mp} {p : Addr} {l : List D} (h : getL M p = some l) : M p = some (.lst l) := by
  unfold getL at h
  split at h
  · cases h; assumption
  · cases h
theorem getL_of {M : Mp} {p : Addr} {l : List D} (h : M p = some (.lst l)) : getL M p = some l := by
  unfold getL; rw [h]
theorem Reps.flat {K : PySem.W.Frag} {H : Hp} {xs : List V} {l : List D} (r : Reps K H xs l) : ∀ n, Reps K H (List.replicate n xs).flatten (List.replicate n l).flatten
  | 0 => .nil
  | n + 1 => by
    rw [List.replicate_succ, List.replicate_succ, List.flatten_cons, List.flatten_cons]
    exact r.append (Reps.flat r n)
theorem bin_ok {X : Cx} : ∀ b : Bop, OpR X (binaryOp b.op) (lift2 X.K (bin3 b)) := by
  intro b pins s σ H x y v u Q I rx ry h
  obtain ⟨d, e, M, Q3, hr, r1, r2, h, L⟩ := h
  cases b with
  | add =>
    cases d <;> cases e <;> try exact h.elim
    · cases r1; cases r2; exact op_add pins s σ H _ _ v u Q I rx ry ⟨_, _, rfl, rfl, L.here hr (.int _) h⟩
    · cases r1; cases r2; exact op_add_str pins s σ H _ _ v u Q I rx ry ⟨_, _, rfl, rfl, h.1, L.here hr (.str _) h.2⟩
    · cases r1 with
      | tup s1 q1 =>
        cases r2 with
        | tup s2 q2 =>
          rename_i l1 l2 a1 x1 a2 x2
          refine op_catA pins s σ H _ _ v u Q I rx ry ⟨_, _, _, _, rfl, rfl, s1, s2, by rw [q1.length, q2.length]; exact h.1, fun e0 => ?_, fun _ e1 => ?_, fun _ _ => newT_ok hr (q1.append q2) h.2 L⟩
          · subst e0
            cases q1
            exact L.here hr (.tup s2 q2) h.2
          · subst e1
            cases q2
            have h2 := h.2
            rw [List.append_nil] at h2
            exact L.here hr (.tup s1 q1) h2
    · cases r1; cases r2
      obtain ⟨a, b, ea, eb, hz, q⟩ := h
      obtain ⟨xs, hx, qx⟩ := hr.list (getL_some ea)
      obtain ⟨ys, hy, qy⟩ := hr.list (getL_some eb)
      exact op_cat pins s σ H _ _ v u Q I rx ry ⟨_, _, _, _, rfl, rfl, hx, hy, by rw [qx.length, qy.length]; exact hz, newL_ok hr (qx.append qy) q L⟩
  | sub =>
    cases d <;> cases e <;> try exact h.elim
    cases r1; cases r2; exact op_sub pins s σ H _ _ v u Q I rx ry ⟨_, _, rfl, rfl, L.here hr (.int _) h⟩
  | mul =>
    cases d <;> cases e <;> try exact h.elim
    · cases r1; cases r2
      obtain ⟨hm, q⟩ := h
      rcases hm with hm | hm | hm
      · exact op_mul pins s σ H _ _ v u Q I rx ry ⟨_, _, rfl, rfl, .inl hm, L.here hr (.int _) q⟩
      · exact op_mul pins s σ H _ _ v u Q I rx ry ⟨_, _, rfl, rfl, .inr hm, L.here hr (.int _) q⟩
      · exact op_mulW pins s σ H _ _ v u Q I rx ry ⟨_, _, rfl, rfl, hm, L.here hr (.int _) q⟩
    · cases r1; cases r2
      obtain ⟨a, ea, ⟨h1, h2, h3⟩, q⟩ := h
      obtain ⟨xs, hx, qx⟩ := hr.list (getL_some ea)
      exact op_rep pins s σ H _ _ v u Q I rx ry ⟨_, _, _, rfl, rfl, hx, h1, h2, by rw [qx.length]; exact h3, newL_ok hr (qx.flat _) q L⟩
  | fdiv =>
    cases d <;> cases e <;> try exact h.elim
    cases r1; cases r2
    obtain ⟨⟨h0, h1⟩, q⟩ := h
    rcases h1 with h1 | h1
    · exact op_fdiv pins s σ H _ _ v u Q I rx ry ⟨_, _, rfl, rfl, ⟨h0, h1⟩, L.here hr (.int _) q⟩
    · exact op_fdivW pins s σ H _ _ v u Q I rx ry ⟨_, _, rfl, rfl, ⟨h0, h1⟩, L.here hr (.int _) q⟩
  | mod =>
    cases d <;> cases e <;> try exact h.elim
    cases r1; cases r2; exact op_mod pins s σ H _ _ v u Q I rx ry ⟨_, _, rfl, rfl, h.1, L.here hr (.int _) h.2⟩
  | pow =>
    cases d <;> cases e <;> try exact h.elim
    cases r1; cases r2; exact op_pow pins s σ H _ _ v u Q I rx ry ⟨_, _, rfl, rfl, h.1, L.here hr (.int _) h.2⟩
  | shl =>
    cases d <;> cases e <;> try exact h.elim
    cases r1; cases r2; exact op_shl pins s σ H _ _ v u Q I rx ry ⟨_, _, rfl, rfl, h.1, L.here hr (.int _) h.2⟩
  | shr =>
    cases d <;> cases e <;> try exact h.elim
    cases r1; cases r2; exact op_shr pins s σ H _ _ v u Q I rx ry ⟨_, _, rfl, rfl, h.1, L.here hr (.int _) h.2⟩

/-! ### comparisons -/
inductive Cop | eq | ne | lt | le | gt | ge | isN | notN | inn | nin
def Cop.op : Cop → CmpOp
  | .eq => .Eq | .ne => .NotEq | .lt => .Lt | .le => .LtE | .gt => .Gt | .ge => .GtE | .isN => .Is | .notN => .IsNot | .inn => .In | .nin => .NotIn
mutual
def pyD : D → Option PyData
  | .non => some .none
  | .bl b => some (.bool b)
  | .int i => some (.int i)
  | .str x => some (.str x)
  | .tup l => (pyDs l).map .tuple
  | .cl l => (pyDs l).map .list
  | _ => none
def pyDs : List D → Option (List PyData)
  | [] => some []
  | d :: ds => match pyD d, pyDs ds with
    | some x, some xs => some (x :: xs)
    | _, _ => none
end
def pyT (M : Mp) : D → Option PyData
  | .ref p => match getL M p with
    | some l => (pyDs l).map .list
    | none => none
  | d => pyD d
section
variable {K : PySem.W.Frag} {H : Hp}
mutual
theorem pyD_ok : ∀ (d : D) {v : V} {x : PyData}, Rep K H v d → pyD d = some x → Dp K H v x
  | .non, _, _, r, e => by cases r; cases e; exact .non
  | .bl b, _, _, r, e => by cases r; cases e; exact .bl b
  | .int b, _, _, r, e => by cases r; cases e; exact .int b
  | .str b, _, _, r, e => by cases r; cases e; exact .str b
  | .ref b, _, _, r, e => by cases e
  | .ty b, _, _, r, e => by cases e
  | .tup l, _, _, r, e => by
    cases r with
    | tup s q =>
      unfold pyD at e
      cases h : pyDs l with
      | none => rw [h] at e; cases e
      | some xs =>
        rw [h] at e; cases e
        exact .tup s (pyDs_ok l q h)
  | .cl l, _, _, r, e => by
    cases r with
    | cl s q =>
      unfold pyD at e
      cases h : pyDs l with
      | none => rw [h] at e; cases e
      | some xs =>
        rw [h] at e; cases e
        exact .lst s.l (pyDs_ok l q h)
theorem pyDs_ok : ∀ (ds : List D) {vs : List V} {xs : List PyData}, Reps K H vs ds → pyDs ds = some xs → DpAll K H vs xs
  | [], _, _, r, e => by cases r; cases e; exact .nil
  | d :: ds, _, _, r, e => by
    cases r with
    | cons r rs =>
      unfold pyDs at e
      cases h : pyD d with
      | none => rw [h] at e; cases e
      | some x =>
        cases h' : pyDs ds with
        | none => rw [h, h'] at e; cases e
        | some xs =>
          rw [h, h'] at e; cases e
          exact .cons (pyD_ok d r h) (pyDs_ok ds rs h')
end
theorem pyT_ok {M : Mp} {d : D} {v : V} {x : PyData} (hr : HR K M H) (r : Rep K H v d) (e : pyT M d = some x) : Dp K H v x := by
  cases d with
  | ref p =>
    cases h : getL M p with
    | none => simp only [pyT, h] at e; cases e
    | some l =>
      simp only [pyT, h] at e
      cases h' : pyDs l with
      | none => rw [h'] at e; cases e
      | some xs =>
        rw [h'] at e; cases e
        obtain ⟨ys, hy, q⟩ := hr.list (getL_some h)
        cases r
        exact .lst (SqL.of hy) (pyDs_ok l q h')
  | _ => exact pyD_ok _ r e
end
def eq3 (f : Bool → Bool) : R23 := fun d e M Q => match pyT M d, pyT M e with
  | some x, some y => SeqAt.shaped x = true ∧ SeqAt.shaped y = true ∧ Q (.bl (f (PyData.eqv x y))) M
  | _, _ => False
def isNon : D → Bool
  | .non => true
  | _ => false
def flatD : D → Bool
  | .non => true
  | .bl _ => true
  | .int _ => true
  | .str _ => true
  | _ => false
/-- == of flat values -/
def eqF : D → D → Bool
  | .non, .non => true
  | .bl a, .bl b => a == b
  | .bl a, .int b => (if a then 1 else 0) == b
  | .int a, .bl b => a == (if b then 1 else 0)
  | .int a, .int b => a == b
  | .str a, .str b => a == b
  | _, _ => false
def inF (x : D) (l : List D) : Bool := l.any fun y => eqF y x
def keyD : D → Option Key
  | .int i => some (.inl i)
  | .str x => some (.inr x)
  | _ => none
def getK (l : List (Key × D)) (k : Key) : Option D := (l.find? fun kv => decide (kv.1 = k)).map (·.2)
def getD (M : Mp) (p : Addr) : Option (List (Key × D)) := match M p with
  | some (.dic l) => some l
  | _ => none
theorem getD_some {M : Mp} {p : Addr} {l : List (Key × D)} (h : getD M p = some l) : M p = some (.dic l) := by
  unfold getD at h
  split at h
  · cases h; assumption
  · cases h
theorem getD_of {M : Mp} {p : Addr} {l : List (Key × D)} (h : M p = some (.dic l)) : getD M p = some l := by
  unfold getD; rw [h]
def in3 (f : Bool → Bool) : R23 := fun d e M Q => match e with
  | .tup l => flatD d = true ∧ l.all flatD = true ∧ Q (.bl (f (inF d l))) M
  | .cl l => flatD d = true ∧ l.all flatD = true ∧ Q (.bl (f (inF d l))) M
  | .ref p => match M p with
    | some (.lst l) => flatD d = true ∧ l.all flatD = true ∧ Q (.bl (f (inF d l))) M
    | some (.dic l) => match keyD d with
      | some k => Q (.bl (f (getK l k).isSome)) M
      | none => False
    | none => False
  | _ => False
def cmp3 : Cop → R23
  | .eq, .int i, .int j, M, Q => Q (.bl (decide (i = j))) M
  | .eq, d, e, M, Q => eq3 id d e M Q
  | .ne, .int i, .int j, M, Q => Q (.bl (!decide (i = j))) M
  | .ne, d, e, M, Q => eq3 not d e M Q
  | .lt, .int i, .int j, M, Q => Q (.bl (decide (i < j))) M
  | .le, .int i, .int j, M, Q => Q (.bl (decide (i ≤ j))) M
  | .gt, .int i, .int j, M, Q => Q (.bl (decide (j < i))) M
  | .ge, .int i, .int j, M, Q => Q (.bl (decide (j ≤ i))) M
  | .isN, d, .non, M, Q => Q (.bl (isNon d)) M
  | .notN, d, .non, M, Q => Q (.bl (!isNon d)) M
  | .inn, d, e, M, Q => in3 id d e M Q
  | .nin, d, e, M, Q => in3 not d e M Q
  | _, _, _, _, _ => False
section
variable {K : PySem.W.Frag} {H : Hp}
theorem isNon_ok {v : V} {d : D} (r : Rep K H v d) : decide (v = .non) = isNon d := by
  cases r <;> first | rfl | simp [isNon]
theorem flat_ok {v : V} {d : D} (r : Rep K H v d) (f : flatD d = true) : flatV v = true := by
  cases r <;> first | rfl | cases f
theorem flats_ok : ∀ {l : List D} {vs : List V}, Reps K H vs l → l.all flatD = true → vs.all flatV = true
  | [], _, r, _ => by cases r; rfl
  | d :: l, _, r, f => by
    cases r with
    | cons r rs =>
      rw [List.all_cons, Bool.and_eq_true] at f
      rw [List.all_cons, flat_ok r f.1, flats_ok rs f.2]; rfl
theorem eqF_ok {v w : V} {d e : D} (r : Rep K H v d) (q : Rep K H w e) (f : flatD d = true) (g : flatD e = true) : eqV v w = eqF d e := by
  cases r <;> cases q <;> first | rfl | (exact absurd f (by simp [flatD])) | (exact absurd g (by simp [flatD]))
theorem inF_ok {v : V} {d : D} (r : Rep K H v d) (f : flatD d = true) : ∀ {l : List D} {vs : List V}, Reps K H vs l → l.all flatD = true → inV v vs = inF d l
  | [], _, q, _ => by cases q; rfl
  | e :: l, _, q, g => by
    cases q with
    | cons q qs =>
      rw [List.all_cons, Bool.and_eq_true] at g
      have h := inF_ok r f qs g.2
      unfold inV inF at h ⊢
      rw [List.any_cons, List.any_cons, eqF_ok q r g.1 f, h]
theorem keyD_ok {v : V} {d : D} {k : Key} (r : Rep K H v d) (e : keyD d = some k) : v = kV k := by
  cases r <;> cases e <;> rfl
abbrev PK3 (K : PySem.W.Frag) (H : Hp) : List (Key × V) → List (Key × D) → Prop := Paired fun (p : Key × V) (q : Key × D) => p.1 = q.1 ∧ Rep K H p.2 q.2
theorem getK_ok {k : Key} : ∀ {ws : List (Key × V)} {l : List (Key × D)}, PK3 K H ws l → (valV ws k = none ∧ getK l k = none) ∨ ∃ v d, valV ws k = some v ∧ getK l k = some d ∧ Rep K H v d
  | _, _, .nil => .inl ⟨rfl, rfl⟩
  | p :: ws, q :: l, .cons r rs => by
    by_cases e : p.1 = k
    · have e' : q.1 = k := r.1.symm.trans e
      exact .inr ⟨p.2, q.2, valV_pos e, by simp [getK, List.find?_cons, e'], r.2⟩
    · have e' : ¬ q.1 = k := fun z => e (r.1.trans z)
      rw [valV_neg e]
      have : getK (q :: l) k = getK l k := by simp [getK, List.find?_cons, e']
      rw [this]
      exact getK_ok rs
end
theorem in_dict {X : Cx} (hu : X.A.units + 1 < cLine) : OpR X (compareOp .In) (fun y x H Q => ∃ a ov, x = .ref a ∧ DGet H a y ov ∧ Q (.bl ov.isSome) H) := by
  intro pins s σ H y x iv u Q I ry rx h
  obtain ⟨a, ov, rfl, g, q⟩ := h
  obtain rfl : u = Value.ref a := rx
  exact d_in hu I g ry fun s3 I3 => ⟨.bl ov.isSome, H, I3, rfl, q⟩
theorem nin_dict {X : Cx} (hu : X.A.units + 1 < cLine) : OpR X (compareOp .NotIn) (fun y x H Q => ∃ a ov, x = .ref a ∧ DGet H a y ov ∧ Q (.bl (!ov.isSome)) H) := by
  intro pins s σ H y x iv u Q I ry rx h
  obtain ⟨a, ov, rfl, g, q⟩ := h
  obtain rfl : u = Value.ref a := rx
  exact d_notIn hu I g ry fun s3 I3 => ⟨.bl (!ov.isSome), H, I3, rfl, q⟩
end G3
set_option Elab.async false
set_option linter.all false
set_option maxRecDepth 100000
set_option maxHeartbeats 4000000
namespace G3
open PySem PySem.Spec PyProof.Rows L2
section
variable {X : Cx}
theorem cmp_ok (hu : X.A.units + 64 < cLine) : ∀ c : Cop, OpR X (compareOp c.op) (lift2 X.K (cmp3 c)) := by
  intro c pins s σ H x y v u Q I rx ry h
  obtain ⟨d, e, M, Q3, hr, r1, r2, h, L⟩ := h
  have eqc : ∀ f d e, Rep X.K H x d → Rep X.K H y e → eq3 f d e M Q3 → ∃ a b, Dp X.K H x a ∧ Dp X.K H y b ∧ SeqAt.shaped a = true ∧ SeqAt.shaped b = true ∧ Q (.bl (f (PyData.eqv a b))) H := fun f d e r1 r2 h => by
    unfold eq3 at h
    split at h
    · rename_i a b ha hb
      exact ⟨a, b, pyT_ok hr r1 ha, pyT_ok hr r2 hb, h.1, h.2.1, L.here hr (.bl _) h.2.2⟩
    · exact h.elim
  cases c with
  | eq =>
    have gen : eq3 id d e M Q3 → wpAny (model X.prog X.w) X.A (compareOp .Eq v u) (EP X pins σ Q) X.xe s := fun h => op_eqD hu pins s σ H x y v u Q I rx ry (eqc id d e r1 r2 h)
    cases d <;> cases e <;> first
      | exact gen h
      | (cases r1; cases r2; exact pc_eqI_ pins s σ H _ _ v u Q I rx ry h)
      | (cases r1; cases r2; exact op_eq pins s σ H _ _ v u Q I rx ry ⟨rfl, by rw [dec_int, Bool.beq_eq_decide_eq]; exact L.here hr (.bl _) h⟩)
  | ne =>
    have gen : eq3 not d e M Q3 → wpAny (model X.prog X.w) X.A (compareOp .NotEq v u) (EP X pins σ Q) X.xe s := fun h => op_neD hu pins s σ H x y v u Q I rx ry (eqc not d e r1 r2 h)
    cases d <;> cases e <;> first
      | exact gen h
      | (cases r1; cases r2; exact op_ne pins s σ H _ _ v u Q I rx ry ⟨rfl, by rw [dec_int, Bool.beq_eq_decide_eq]; exact L.here hr (.bl _) h⟩)
  | lt =>
    cases d <;> cases e <;> try exact h.elim
    cases r1; cases r2; exact op_lt pins s σ H _ _ v u Q I rx ry ⟨_, _, rfl, rfl, L.here hr (.bl _) h⟩
  | le =>
    cases d <;> cases e <;> try exact h.elim
    cases r1; cases r2; exact op_le pins s σ H _ _ v u Q I rx ry ⟨_, _, rfl, rfl, L.here hr (.bl _) h⟩
  | gt =>
    cases d <;> cases e <;> try exact h.elim
    cases r1; cases r2; exact op_gt pins s σ H _ _ v u Q I rx ry ⟨_, _, rfl, rfl, L.here hr (.bl _) h⟩
  | ge =>
    cases d <;> cases e <;> try exact h.elim
    cases r1; cases r2; exact op_ge pins s σ H _ _ v u Q I rx ry ⟨_, _, rfl, rfl, L.here hr (.bl _) h⟩
  | isN =>
    have h' : e = .non ∧ Q3 (.bl (isNon d)) M := by cases d <;> cases e <;> first | exact ⟨rfl, h⟩ | exact h.elim
    obtain ⟨rfl, h'⟩ := h'
    cases r2
    exact op_isN pins s σ H _ _ v u Q I rx ry ⟨rfl, by rw [isNon_ok r1]; exact L.here hr (.bl _) h'⟩
  | notN =>
    have h' : e = .non ∧ Q3 (.bl (!isNon d)) M := by cases d <;> cases e <;> first | exact ⟨rfl, h⟩ | exact h.elim
    obtain ⟨rfl, h'⟩ := h'
    cases r2
    exact op_notN pins s σ H _ _ v u Q I rx ry ⟨rfl, by rw [isNon_ok r1]; exact L.here hr (.bl _) h'⟩
  | inn =>
    have h : in3 id d e M Q3 := h
    unfold in3 at h
    split at h
    · cases r2 with
      | tup s1 q1 => exact op_in_seq pins s σ H _ _ v u Q I rx ry ⟨_, _, rfl, .inr s1, flat_ok r1 h.1, flats_ok q1 h.2.1, by rw [if_neg Bool.false_ne_true, inF_ok r1 h.1 q1 h.2.1]; exact L.here hr (.bl _) h.2.2⟩
    · cases r2 with
      | cl s1 q1 => exact op_in_seq pins s σ H _ _ v u Q I rx ry ⟨_, _, rfl, .inl s1.l, flat_ok r1 h.1, flats_ok q1 h.2.1, by rw [if_neg Bool.false_ne_true, inF_ok r1 h.1 q1 h.2.1]; exact L.here hr (.bl _) h.2.2⟩
    · rename_i p
      cases r2
      split at h
      · rename_i l e1
        obtain ⟨xs, hx, q1⟩ := hr.list e1
        exact op_in_seq pins s σ H _ _ v u Q I rx ry ⟨_, _, rfl, .inl (SqL.of hx), flat_ok r1 h.1, flats_ok q1 h.2.1, by rw [if_neg Bool.false_ne_true, inF_ok r1 h.1 q1 h.2.1]; exact L.here hr (.bl _) h.2.2⟩
      · rename_i l e1
        obtain ⟨xs, hx, q1⟩ := hr.dic e1
        split at h
        · rename_i k ek
          have e2 := keyD_ok r1 ek
          subst e2
          refine in_dict (by omega) pins s σ H _ _ v u Q I rx ry ⟨_, _, rfl, DGet.k hx, L.here hr (.bl _) ?_⟩
          rcases getK_ok (k := k) q1 with ⟨z1, z2⟩ | ⟨w, d', z1, z2, _⟩
          · rw [z2] at h; rw [z1]; exact h
          · rw [z2] at h; rw [z1]; exact h
        · exact h.elim
      · exact h.elim
    · exact h.elim
  | nin =>
    have h : in3 not d e M Q3 := h
    unfold in3 at h
    split at h
    · cases r2 with
      | tup s1 q1 => exact op_notIn_seq pins s σ H _ _ v u Q I rx ry ⟨_, _, rfl, .inr s1, flat_ok r1 h.1, flats_ok q1 h.2.1, by rw [if_pos rfl, inF_ok r1 h.1 q1 h.2.1]; exact L.here hr (.bl _) h.2.2⟩
    · cases r2 with
      | cl s1 q1 => exact op_notIn_seq pins s σ H _ _ v u Q I rx ry ⟨_, _, rfl, .inl s1.l, flat_ok r1 h.1, flats_ok q1 h.2.1, by rw [if_pos rfl, inF_ok r1 h.1 q1 h.2.1]; exact L.here hr (.bl _) h.2.2⟩
    · rename_i p
      cases r2
      split at h
      · rename_i l e1
        obtain ⟨xs, hx, q1⟩ := hr.list e1
        exact op_notIn_seq pins s σ H _ _ v u Q I rx ry ⟨_, _, rfl, .inl (SqL.of hx), flat_ok r1 h.1, flats_ok q1 h.2.1, by rw [if_pos rfl, inF_ok r1 h.1 q1 h.2.1]; exact L.here hr (.bl _) h.2.2⟩
      · rename_i l e1
        obtain ⟨xs, hx, q1⟩ := hr.dic e1
        split at h
        · rename_i k ek
          have e2 := keyD_ok r1 ek
          subst e2
          refine nin_dict (by omega) pins s σ H _ _ v u Q I rx ry ⟨_, _, rfl, DGet.k hx, L.here hr (.bl _) ?_⟩
          rcases getK_ok (k := k) q1 with ⟨z1, z2⟩ | ⟨w, d', z1, z2, _⟩
          · rw [z2] at h; rw [z1]; exact h
          · rw [z2] at h; rw [z1]; exact h
        · exact h.elim
      · exact h.elim
    · exact h.elim

/-! ### one value -/
def neg3 : D → Mp → K3 → Prop
  | .int i, M, Q => Q (.int (-i)) M
  | _, _, _ => False
theorem neg_ok : UnR X (unaryOp .USub) (lift1 X.K neg3) := by
  intro pins s σ H x v Q I rx h
  obtain ⟨d, M, Q3, hr, r1, h, L⟩ := h
  cases d <;> try exact h.elim
  cases r1
  exact un_neg pins s σ H _ v Q I rx ⟨_, rfl, L.here hr (.int _) h⟩
/-- a value's truth -/
def tru3 (d : D) (M : Mp) (Q : Bool → Mp → Prop) : Prop := match d with
  | .non => Q false M
  | .bl b => Q b M
  | .int i => Q (i != 0) M
  | .str x => x.length ≤ sizeLine ∧ Q ((x.length : Int) != 0) M
  | .tup l => Q (!l.isEmpty) M
  | .cl l => Q (!l.isEmpty) M
  | .ref p => match M p with
    | some (.lst l) => Q (!l.isEmpty) M
    | some (.dic l) => Q (!l.isEmpty) M
    | none => False
  | .ty _ => False
theorem Reps.isEmpty {K : PySem.W.Frag} {H : Hp} {xs : List V} {l : List D} (r : Reps K H xs l) : l.isEmpty = xs.isEmpty := by
  cases r <;> rfl
theorem PK3.isEmpty {K : PySem.W.Frag} {H : Hp} {xs : List (Key × V)} {l : List (Key × D)} (r : PK3 K H xs l) : l.isEmpty = xs.isEmpty := by
  cases r <;> rfl
theorem tru3_ok {K : PySem.W.Frag} {H : Hp} {M : Mp} {v : V} {d : D} {Q3 : Bool → Mp → Prop} (hr : HR K M H) (r : Rep K H v d) (h : tru3 d M Q3) : ∃ k, TruV K v H k ∧ Q3 k M := by
  cases r with
  | non => exact ⟨_, rfl, h⟩
  | bl b => exact ⟨_, rfl, h⟩
  | int i => exact ⟨_, rfl, h⟩
  | str x => exact ⟨_, ⟨h.1, rfl⟩, h.2⟩
  | ty n => exact h.elim
  | ref a =>
    unfold tru3 at h
    dsimp only at h
    split at h
    · rename_i l e
      obtain ⟨xs, hx, q⟩ := hr.list e
      exact ⟨_, .inl ⟨xs, SqL.of hx, rfl⟩, by rw [← q.isEmpty]; exact h⟩
    · rename_i l e
      obtain ⟨xs, hx, q⟩ := hr.dic e
      exact ⟨_, .inr (.inr ⟨xs, hx, rfl⟩), by rw [← PK3.isEmpty q]; exact h⟩
    · exact h.elim
  | tup s q => exact ⟨_, .inr (.inl ⟨_, s, rfl⟩), by rw [← q.isEmpty]; exact h⟩
  | cl s q => exact ⟨_, .inl ⟨_, s.l, rfl⟩, by rw [← q.isEmpty]; exact h⟩

/-! ### subscripts -/
theorem tail_bi {prog : Program} {w : World} {A : Around} {E : Value → Shared → Prop} {s : Shared} {value slice : Expr} {o i : Value} {T id : String} {Q : Value → Shared → Prop} (hT : s.TypeIs o T)
    (hl : typeLookup (.type T) "__getitem__" = pure (some (.builtin id))) (h : wpAny (model prog w) A (getItem o i) Q E s)
    (hs : subscripted slice false o i = operate [o, i] (getItem o i)) : wpAny (model prog w) A (subscriptTail value slice o i) Q E s := by
  unfold subscriptTail
  refine wpAny_bind ?_
  rw [getitemInPython_of_ne hT.not_modules]
  refine wpAny_bind (wpAny_specialOf hT hl ?_)
  have fin : wpAny (model prog w) A (subscripted slice false o i) (fun r s₃ => wpAny (model prog w) A (letTemporaryGo value o r >>= fun _ => pure r) Q E s₃) E s := by
    rw [hs]
    exact wpAny_operating (wpAny_mono h (fun r s₃ h₃ => wpAny_bind (wpAny_letTemporaryGo (wpAny_pure h₃))) fun _ _ x => x)
  first
    | exact wpAny_pure (wpAny_bind fin)
    | exact wpAny_bind (wpAny_pure (wpAny_bind fin))
    | exact wpAny_bind fin
theorem ix_dict (hu : X.A.units + 1 < cLine) : IxR X (fun x y H Q => ∃ a v, x = .ref a ∧ DGet H a y (some v) ∧ Q v H) := by
  intro value slice pins s σ H x y v u Q I rx ry h hs
  obtain ⟨a, w, rfl, g, q⟩ := h
  obtain rfl : v = Value.ref a := rx
  exact tail_bi (dict_typeIs I g) PySem.F.slot_dict_getitem.lookup (d_getItem hu I g ry fun w' s3 I3 rw' => ⟨w, H, I3, rw', q⟩) hs
def ix3 : R23 := fun d e M Q => match d with
  | .tup l => (match e with
    | .int i => match atI l i with
      | some x => Q x M
      | none => False
    | _ => False)
  | .cl l => (match e with
    | .int i => match atI l i with
      | some x => Q x M
      | none => False
    | _ => False)
  | .str x => (match e with
    | .int i => x.length ≤ sizeLine ∧ (match atI x.cps.toList i with
      | some c => Q (.str ⟨#[c]⟩) M
      | none => False)
    | _ => False)
  | .ref p => (match M p with
    | some (.lst l) => (match e with
      | .int i => match atI l i with
        | some x => Q x M
        | none => False
      | _ => False)
    | some (.dic l) => (match keyD e with
      | some k => match getK l k with
        | some x => Q x M
        | none => False
      | none => False)
    | none => False)
  | _ => False
theorem Reps.atI {K : PySem.W.Frag} {H : Hp} {xs : List V} {l : List D} {i : Int} {d : D} (r : Reps K H xs l) (e : L2.atI l i = some d) : ∃ v, L2.atI xs i = some v ∧ Rep K H v d := by
  unfold L2.atI at e ⊢
  rw [r.length]
  cases h : ixN l.length i with
  | none => rw [h] at e; cases e
  | some j =>
    rw [h] at e
    exact r.get e
theorem ix_ok (hu : X.A.units + 64 < cLine) : IxR X (lift2 X.K ix3) := by
  intro value slice pins s σ H x y v u Q I rx ry h hs
  obtain ⟨d, e, M, Q3, hr, r1, r2, h, L⟩ := h
  unfold ix3 at h
  cases r1 with
  | tup s1 q1 =>
    cases r2 <;> try exact h.elim
    dsimp only at h
    split at h
    · rename_i z hz
      obtain ⟨w, hw, rw'⟩ := q1.atI hz
      exact ix_tup value slice pins s σ H _ _ v u Q I rx ry ⟨_, _, _, _, rfl, rfl, s1, hw, L.here hr rw' h⟩ hs
    · exact h.elim
  | cl s1 q1 =>
    cases r2 <;> try exact h.elim
    dsimp only at h
    split at h
    · rename_i z hz
      obtain ⟨w, hw, rw'⟩ := q1.atI hz
      exact ix_list value slice pins s σ H _ _ v u Q I rx ry ⟨_, _, _, _, rfl, rfl, s1.l, hw, L.here hr rw' h⟩ hs
    · exact h.elim
  | str z =>
    cases r2 <;> try exact h.elim
    dsimp only at h
    obtain ⟨hl, h⟩ := h
    split at h
    · rename_i c hc
      exact ix_str value slice pins s σ H _ _ v u Q I rx ry ⟨_, _, _, rfl, rfl, hl, hc, L.here hr (.str _) h⟩ hs
    · exact h.elim
  | ref p =>
    dsimp only at h
    split at h
    · rename_i l e1
      obtain ⟨xs, hx, q1⟩ := hr.list e1
      cases r2 <;> try exact h.elim
      dsimp only at h
      split at h
      · rename_i z hz
        obtain ⟨w, hw, rw'⟩ := q1.atI hz
        exact ix_list value slice pins s σ H _ _ v u Q I rx ry ⟨_, _, _, _, rfl, rfl, SqL.of hx, hw, L.here hr rw' h⟩ hs
      · exact h.elim
    · rename_i l e1
      obtain ⟨xs, hx, q1⟩ := hr.dic e1
      split at h
      · rename_i k ek
        split at h
        · rename_i z hz
          have e2 := keyD_ok r2 ek
          subst e2
          rcases getK_ok (k := k) q1 with ⟨z1, z2⟩ | ⟨w, d', z1, z2, rw'⟩
          · rw [hz] at z2; cases z2
          · rw [hz] at z2; cases z2
            exact ix_dict (by omega) value slice pins s σ H _ _ v u Q I rx ry ⟨_, _, rfl, by rw [← z1]; exact DGet.k hx, L.here hr rw' h⟩ hs
        · exact h.elim
      · exact h.elim
    · exact h.elim
  | _ => exact h.elim

/-! ### slices -/
def cutD (l : List D) (lo hi : Option Int) : List D := (l.drop (HT.sIx l.length 0 lo)).take (HT.sIx l.length l.length hi - HT.sIx l.length 0 lo)
theorem Reps.cut {K : PySem.W.Frag} {H : Hp} {xs : List V} {l : List D} (r : Reps K H xs l) (lo hi : Option Int) : Reps K H (cutV xs lo hi) (cutD l lo hi) := by
  unfold cutV cutD
  rw [r.length]
  exact (r.drop _).take _
def sl3 (d : D) (lo hi : Option Int) (M : Mp) (Q : K3) : Prop := match d with
  | .tup l => Q (.tup (cutD l lo hi)) M
  | .cl l => newL (cutD l lo hi) M Q
  | .ref p => match getL M p with
    | some l => newL (cutD l lo hi) M Q
    | none => False
  | _ => False
theorem cut_whole {xs : List D} {lo hi : Option Int} (h : HT.sIx xs.length 0 lo = 0 ∧ HT.sIx xs.length xs.length hi = xs.length) : cutD xs lo hi = xs := by
  unfold cutD
  rw [h.1, h.2]
  simp
theorem sl_ok : SlR X (fun x lo hi H Q => ∃ d M Q3, HR X.K M H ∧ Rep X.K H x d ∧ sl3 d lo hi M Q3 ∧ Lnk X.K H Q3 Q) := by
  intro pins s σ H x v vl vu lo hi sl Q I rx hs pl pu h
  obtain ⟨d, M, Q3, hr, r1, h, L⟩ := h
  unfold sl3 at h
  cases r1 with
  | tup s1 q1 =>
    refine sl_tupA pins s σ H _ v vl vu lo hi sl Q I rx hs pl pu ⟨_, _, rfl, s1, fun w => ?_, fun _ => newT_ok hr (q1.cut lo hi) h L⟩
    rw [q1.length] at w
    dsimp only at h
    rw [cut_whole w] at h
    exact L.here hr (.tup s1 q1) h
  | cl s1 q1 => exact sl_list pins s σ H _ v vl vu lo hi sl Q I rx hs pl pu ⟨_, _, rfl, s1.l, newL_ok hr (q1.cut lo hi) h L⟩
  | ref p =>
    dsimp only at h
    split at h
    · rename_i l e1
      obtain ⟨xs, hx, q1⟩ := hr.list (getL_some e1)
      exact sl_list pins s σ H _ v vl vu lo hi sl Q I rx hs pl pu ⟨_, _, rfl, SqL.of hx, newL_ok hr (q1.cut lo hi) h L⟩
    · exact h.elim
  | _ => exact h.elim
def rev3 : D → Mp → K3 → Prop
  | .cl l, M, Q => newL l.reverse M Q
  | .ref p, M, Q => match getL M p with
    | some l => newL l.reverse M Q
    | none => False
  | _, _, _ => False
end
end G3
set_option Elab.async false
set_option linter.all false
set_option maxRecDepth 100000
set_option maxHeartbeats 4000000
namespace G3
open PySem PySem.Spec PyProof.Rows L2
/-! ### built-in functions -/
inductive Bi | len | abs | int | max1 | max2 | min1 | min2 | sum | sorted | list | tuple | all | any | gcd | lcm | isi (ts : List String)
def intsOf : List D → Option (List Int)
  | [] => some []
  | .int i :: r => match intsOf r with
    | some l => some (i :: l)
    | none => none
  | _ => none
def blsOf : List D → Option (List Bool)
  | [] => some []
  | .bl i :: r => match blsOf r with
    | some l => some (i :: l)
    | none => none
  | _ => none
theorem ints_map : ∀ ns : List Int, intsOf (ns.map D.int) = some ns
  | [] => rfl
  | n :: ns => by simp only [List.map_cons, intsOf, ints_map ns]
theorem bls_map : ∀ ns : List Bool, blsOf (ns.map D.bl) = some ns
  | [] => rfl
  | n :: ns => by simp only [List.map_cons, blsOf, bls_map ns]
theorem ints_some : ∀ {l : List D} {ns : List Int}, intsOf l = some ns → l = ns.map D.int
  | [], _, e => by cases e; rfl
  | .int i :: r, ns, e => by
    unfold intsOf at e
    cases h : intsOf r with
    | none => rw [h] at e; cases e
    | some m => rw [h] at e; cases e; rw [ints_some h]; rfl
  | .non :: _, _, e | .bl _ :: _, _, e | .str _ :: _, _, e | .tup _ :: _, _, e | .cl _ :: _, _, e | .ref _ :: _, _, e | .ty _ :: _, _, e => by cases e
theorem bls_some : ∀ {l : List D} {ns : List Bool}, blsOf l = some ns → l = ns.map D.bl
  | [], _, e => by cases e; rfl
  | .bl i :: r, ns, e => by
    unfold blsOf at e
    cases h : blsOf r with
    | none => rw [h] at e; cases e
    | some m => rw [h] at e; cases e; rw [bls_some h]; rfl
  | .non :: _, _, e | .int _ :: _, _, e | .str _ :: _, _, e | .tup _ :: _, _, e | .cl _ :: _, _, e | .ref _ :: _, _, e | .ty _ :: _, _, e => by cases e
/-- the items of a list at hand -/
def listAt (d : D) (M : Mp) : Option (List D) := match d with
  | .ref p => getL M p
  | .cl l => some l
  | _ => none
def seqAt (d : D) (M : Mp) : Option (List D) := match d with
  | .ref p => getL M p
  | .cl l => some l
  | .tup l => some l
  | _ => none
def maxI : List Int → Int
  | [] => 0
  | [x] => x
  | x :: r => max x (maxI r)
def minI : List Int → Int
  | [] => 0
  | [x] => x
  | x :: r => min x (minI r)
theorem maxI_mem : ∀ {l : List Int}, l ≠ [] → maxI l ∈ l
  | [x], _ => by simp [maxI]
  | x :: y :: r, _ => by
    have h := maxI_mem (l := y :: r) (by simp)
    show max x (maxI (y :: r)) ∈ x :: y :: r
    by_cases e : x ≤ maxI (y :: r)
    · rw [Int.max_eq_right e]; exact List.mem_cons_of_mem _ h
    · rw [Int.max_eq_left (by omega)]; simp
theorem le_maxI : ∀ {l : List Int} {y : Int}, y ∈ l → y ≤ maxI l
  | [x], y, h => by simp at h; subst h; simp [maxI]
  | x :: z :: r, y, h => by
    show y ≤ max x (maxI (z :: r))
    rcases List.mem_cons.mp h with rfl | h
    · exact Int.le_max_left _ _
    · exact Int.le_trans (le_maxI h) (Int.le_max_right _ _)
theorem minI_mem : ∀ {l : List Int}, l ≠ [] → minI l ∈ l
  | [x], _ => by simp [minI]
  | x :: y :: r, _ => by
    have h := minI_mem (l := y :: r) (by simp)
    show min x (minI (y :: r)) ∈ x :: y :: r
    by_cases e : x ≤ minI (y :: r)
    · rw [Int.min_eq_left e]; simp
    · rw [Int.min_eq_right (by omega)]; exact List.mem_cons_of_mem _ h
theorem minI_le : ∀ {l : List Int} {y : Int}, y ∈ l → minI l ≤ y
  | [x], y, h => by simp at h; subst h; simp [minI]
  | x :: z :: r, y, h => by
    show min x (minI (z :: r)) ≤ y
    rcases List.mem_cons.mp h with rfl | h
    · exact Int.min_le_left _ _
    · exact Int.le_trans (Int.min_le_right _ _) (minI_le h)
/-- the type's name -/
def tyName (d : D) (M : Mp) : Option String := match d with
  | .non => some "NoneType"
  | .bl _ => some "bool"
  | .int _ => some "int"
  | .str _ => some "str"
  | .tup _ => some "tuple"
  | .cl _ => some "list"
  | .ref p => match M p with
    | some (.lst _) => some "list"
    | some (.dic _) => some "dict"
    | none => none
  | .ty _ => none
/-- which types isinstance is asked of, and what it says: the names of T's own line -/
def isTy (t : String) (T : String) : Bool := t == T || (t == "bool" && T == "int")
def askTy : List String := ["int", "bool", "str", "tuple", "list"]
def one (ds : List D) (f : D → Prop) : Prop := match ds with
  | [d] => f d
  | _ => False
def two (ds : List D) (f : D → D → Prop) : Prop := match ds with
  | [d, e] => f d e
  | _ => False
def isI (d : D) (f : Int → Prop) : Prop := match d with
  | .int i => f i
  | _ => False
theorem one_inv {ds : List D} {f : D → Prop} (h : one ds f) : ∃ d, ds = [d] ∧ f d := by
  unfold one at h
  split at h
  · exact ⟨_, rfl, h⟩
  · exact h.elim
theorem two_inv {ds : List D} {f : D → D → Prop} (h : two ds f) : ∃ d e, ds = [d, e] ∧ f d e := by
  unfold two at h
  split at h
  · exact ⟨_, _, rfl, h⟩
  · exact h.elim
theorem isI_inv {d : D} {f : Int → Prop} (h : isI d f) : ∃ i, d = .int i ∧ f i := by
  unfold isI at h
  split at h
  · exact ⟨_, rfl, h⟩
  · exact h.elim
def some3 {α : Type} (o : Option α) (f : α → Prop) : Prop := match o with
  | some x => f x
  | none => False
theorem some3_inv {α : Type} {o : Option α} {f : α → Prop} (h : some3 o f) : ∃ i, o = some i ∧ f i := by
  unfold some3 at h
  split at h
  · exact ⟨_, rfl, h⟩
  · exact h.elim
def keyV : Key → D
  | .inl i => .int i
  | .inr x => .str x
def len3 (d : D) (M : Mp) (Q : K3) : Prop := match d with
  | .str x => x.length ≤ sizeLine ∧ Q (.int x.length) M
  | .tup l => Q (.int l.length) M
  | .cl l => Q (.int l.length) M
  | .ref p => (match M p with
    | some (.lst l) => Q (.int l.length) M
    | some (.dic l) => Q (.int l.length) M
    | none => False)
  | _ => False
def int3 (d : D) (M : Mp) (Q : K3) : Prop := match d with
  | .int i => Q (.int i) M
  | .bl b => Q (.int (if b then 1 else 0)) M
  | _ => False
def list3 (d : D) (M : Mp) (Q : K3) : Prop := match d with
  | .ref p => (match M p with
    | some (.lst l) => newL l M Q
    | some (.dic l) => newL (l.map fun kv => keyV kv.1) M Q
    | none => False)
  | .cl l => newL l M Q
  | .tup l => newL l M Q
  | _ => False
def bi3 : Bi → List D → Mp → K3 → Prop
  | .len, ds, M, Q => one ds fun d => len3 d M Q
  | .abs, ds, M, Q => one ds fun d => isI d fun i => Q (.int (i.natAbs : Int)) M
  | .int, ds, M, Q => one ds fun d => int3 d M Q
  | .max2, ds, M, Q => two ds fun d e => isI d fun i => isI e fun j => Q (.int (max i j)) M
  | .min2, ds, M, Q => two ds fun d e => isI d fun i => isI e fun j => Q (.int (min i j)) M
  | .max1, ds, M, Q => one ds fun d => some3 ((listAt d M).bind intsOf) fun ns => ns ≠ [] ∧ Q (.int (maxI ns)) M
  | .min1, ds, M, Q => one ds fun d => some3 ((listAt d M).bind intsOf) fun ns => ns ≠ [] ∧ Q (.int (minI ns)) M
  | .sum, ds, M, Q => one ds fun d => some3 ((listAt d M).bind intsOf) fun ns => Q (.int ns.sum) M
  | .sorted, ds, M, Q => one ds fun d => some3 ((listAt d M).bind intsOf) fun ns => ∀ ns' : List Int, ns'.Perm ns → ns'.Pairwise (· ≤ ·) → newL (ns'.map .int) M Q
  | .list, ds, M, Q => one ds fun d => list3 d M Q
  | .tuple, ds, M, Q => one ds fun d => some3 (seqAt d M) fun l => Q (.tup l) M
  | .all, ds, M, Q => one ds fun d => some3 ((listAt d M).bind blsOf) fun bs => Q (.bl (bs.all id)) M
  | .any, ds, M, Q => one ds fun d => some3 ((listAt d M).bind blsOf) fun bs => Q (.bl (bs.any id)) M
  | .gcd, ds, M, Q => two ds fun d e => isI d fun i => isI e fun j => Q (.int ((Nat.gcd i.natAbs j.natAbs : Nat) : Int)) M
  | .lcm, ds, M, Q => two ds fun d e => isI d fun i => isI e fun j => i.natAbs < 2 ^ 64 ∧ j.natAbs < 2 ^ 64 ∧ Q (.int ((Nat.lcm i.natAbs j.natAbs : Nat) : Int)) M
  | .isi ts, ds, M, Q => two ds fun d e => some3 (tyName d M) fun t => Q (.bl (ts.any fun T => isTy t T)) M
section
variable {X : Cx}
theorem Reps1 {K : PySem.W.Frag} {H : Hp} {xs : List V} {d : D} (r : Reps K H xs [d]) : ∃ v, xs = [v] ∧ Rep K H v d := by
  cases r with
  | cons r rs => cases rs; exact ⟨_, rfl, r⟩
theorem Reps2 {K : PySem.W.Frag} {H : Hp} {xs : List V} {d e : D} (r : Reps K H xs [d, e]) : ∃ v w, xs = [v, w] ∧ Rep K H v d ∧ Rep K H w e := by
  cases r with
  | cons r rs =>
    obtain ⟨w, rfl, r'⟩ := Reps1 rs
    exact ⟨_, _, rfl, r, r'⟩
theorem listAt_ok {K : PySem.W.Frag} {H : Hp} {M : Mp} {d : D} {v : V} {l : List D} (hr : HR K M H) (r : Rep K H v d) (e : listAt d M = some l) : ∃ a xs, v = .ref a ∧ SqL K H a xs ∧ Reps K H xs l := by
  unfold listAt at e
  cases r with
  | ref p =>
    obtain ⟨xs, hx, q⟩ := hr.list (getL_some e)
    exact ⟨_, xs, rfl, SqL.of hx, q⟩
  | cl s q => cases e; exact ⟨_, _, rfl, s.l, q⟩
  | _ => cases e
theorem intsAt {K : PySem.W.Frag} {H : Hp} {M : Mp} {d : D} {v : V} {ns : List Int} (hr : HR K M H) (r : Rep K H v d) (e : (listAt d M).bind intsOf = some ns) : ∃ a, v = .ref a ∧ SqL K H a (ns.map V.int) := by
  cases h : listAt d M with
  | none => rw [h] at e; cases e
  | some l =>
    rw [h] at e
    obtain ⟨a, xs, rfl, s, q⟩ := listAt_ok hr r h
    have e2 := ints_some e
    subst e2
    rw [q.ints] at s
    exact ⟨a, rfl, s⟩
theorem blsAt {K : PySem.W.Frag} {H : Hp} {M : Mp} {d : D} {v : V} {ns : List Bool} (hr : HR K M H) (r : Rep K H v d) (e : (listAt d M).bind blsOf = some ns) : ∃ a, v = .ref a ∧ SqL K H a (ns.map V.bl) := by
  cases h : listAt d M with
  | none => rw [h] at e; cases e
  | some l =>
    rw [h] at e
    obtain ⟨a, xs, rfl, s, q⟩ := listAt_ok hr r h
    have e2 := bls_some e
    subst e2
    rw [q.bls] at s
    exact ⟨a, rfl, s⟩
theorem PK3.length {K : PySem.W.Frag} {H : Hp} {xs : List (Key × V)} {l : List (Key × D)} (r : PK3 K H xs l) : xs.length = l.length := Paired.length r
theorem len_ok : CallR X (.builtin "len") (liftC X.K (bi3 .len)) := by
  intro pins s σ H xs us Q I rx h
  obtain ⟨ds, M, Q3, hr, rs, hh, L⟩ := h
  obtain ⟨d, rfl, h⟩ := one_inv hh
  obtain ⟨v, rfl, r⟩ := Reps1 rs
  unfold len3 at h
  cases r with
  | str x => exact call_len pins s σ H _ us Q I rx ⟨_, _, rfl, ⟨h.1, rfl⟩, L.here hr (.int _) h.2⟩
  | tup s1 q => exact call_len pins s σ H _ us Q I rx ⟨_, _, rfl, .inr ⟨_, s1, rfl⟩, L.here hr (.int _) (by rw [q.length]; exact h)⟩
  | cl s1 q => exact call_len pins s σ H _ us Q I rx ⟨_, _, rfl, .inl ⟨_, s1.l, rfl⟩, L.here hr (.int _) (by rw [q.length]; exact h)⟩
  | ref p =>
    dsimp only at h
    split at h
    · rename_i l e
      obtain ⟨xs, hx, q⟩ := hr.list e
      exact call_len pins s σ H _ us Q I rx ⟨_, _, rfl, .inl ⟨_, SqL.of hx, rfl⟩, L.here hr (.int _) (by rw [q.length]; exact h)⟩
    · rename_i l e
      obtain ⟨xs, hx, q⟩ := hr.dic e
      exact call_lenD pins s σ H _ us Q I rx ⟨_, _, rfl, hx, L.here hr (.int _) (by rw [PK3.length q]; exact h)⟩
    · exact h.elim
  | _ => exact h.elim
theorem abs_ok : CallR X (.builtin "abs") (liftC X.K (bi3 .abs)) := by
  intro pins s σ H xs us Q I rx h
  obtain ⟨ds, M, Q3, hr, rs, hh, L⟩ := h
  obtain ⟨d, rfl, h⟩ := one_inv hh
  obtain ⟨v, rfl, r⟩ := Reps1 rs
  obtain ⟨i, rfl, h1⟩ := isI_inv h
  cases r
  refine call_abs pins s σ H _ us Q I rx ⟨_, rfl, L.here hr (.int _) ?_⟩
  have e : (if i < 0 then -i else i) = (i.natAbs : Int) := by split <;> omega
  rw [e]; exact h1
theorem int_ok : CallR X (.type "int") (liftC X.K (bi3 .int)) := by
  intro pins s σ H xs us Q I rx h
  obtain ⟨ds, M, Q3, hr, rs, hh, L⟩ := h
  obtain ⟨d, rfl, h⟩ := one_inv hh
  obtain ⟨v, rfl, r⟩ := Reps1 rs
  unfold int3 at h
  cases r with
  | int i => exact call_int1 pins s σ H _ us Q I rx (.inl ⟨_, rfl, L.here hr (.int _) h⟩)
  | bl i => exact call_int1 pins s σ H _ us Q I rx (.inr ⟨_, rfl, L.here hr (.int _) h⟩)
  | _ => exact h.elim
theorem max1_ok (hc : X.calm = true) : CallR X (.builtin "max") (liftC X.K (bi3 .max1)) := by
  intro pins s σ H xs us Q I rx h
  obtain ⟨ds, M, Q3, hr, rs, hh, L⟩ := h
  obtain ⟨d, rfl, h⟩ := one_inv hh
  obtain ⟨v, rfl, r⟩ := Reps1 rs
  obtain ⟨ns, e, h1⟩ := some3_inv h
  obtain ⟨a, rfl, s1⟩ := intsAt hr r e
  refine cr_max hc pins s σ H _ us Q I rx ⟨_, ns, rfl, s1, List.length_pos_iff.mpr h1.1, fun m hm hle => L.here hr (.int _) ?_⟩
  have e : m = maxI ns := by
    have g1 := le_maxI hm
    have g2 := hle _ (maxI_mem h1.1)
    omega
  rw [e]; exact h1.2
theorem min1_ok (hc : X.calm = true) : CallR X (.builtin "min") (liftC X.K (bi3 .min1)) := by
  intro pins s σ H xs us Q I rx h
  obtain ⟨ds, M, Q3, hr, rs, hh, L⟩ := h
  obtain ⟨d, rfl, h⟩ := one_inv hh
  obtain ⟨v, rfl, r⟩ := Reps1 rs
  obtain ⟨ns, e, h1⟩ := some3_inv h
  obtain ⟨a, rfl, s1⟩ := intsAt hr r e
  refine cr_min hc pins s σ H _ us Q I rx ⟨_, ns, rfl, s1, List.length_pos_iff.mpr h1.1, fun m hm hle => L.here hr (.int _) ?_⟩
  have e : m = minI ns := by
    have g1 := minI_le hm
    have g2 := hle _ (minI_mem h1.1)
    omega
  rw [e]; exact h1.2
theorem max2_ok (hc : X.calm = true) : CallR X (.builtin "max") (liftC X.K (bi3 .max2)) := by
  intro pins s σ H xs us Q I rx h
  obtain ⟨ds, M, Q3, hr, rs, hh, L⟩ := h
  obtain ⟨d, e, rfl, h⟩ := two_inv hh
  obtain ⟨v, w, rfl, r1, r2⟩ := Reps2 rs
  obtain ⟨i, rfl, h1⟩ := isI_inv h
  obtain ⟨j, rfl, h2⟩ := isI_inv h1
  cases r1; cases r2
  refine call_max2 hc pins s σ H _ us Q I rx ⟨_, _, rfl, L.here hr (.int _) ?_⟩
  have e : (if j > i then j else i) = max i j := by split <;> omega
  rw [e]; exact h2
theorem min2_ok (hc : X.calm = true) : CallR X (.builtin "min") (liftC X.K (bi3 .min2)) := by
  intro pins s σ H xs us Q I rx h
  obtain ⟨ds, M, Q3, hr, rs, hh, L⟩ := h
  obtain ⟨d, e, rfl, h⟩ := two_inv hh
  obtain ⟨v, w, rfl, r1, r2⟩ := Reps2 rs
  obtain ⟨i, rfl, h1⟩ := isI_inv h
  obtain ⟨j, rfl, h2⟩ := isI_inv h1
  cases r1; cases r2
  refine call_min2 hc pins s σ H _ us Q I rx ⟨_, _, rfl, L.here hr (.int _) ?_⟩
  have e : (if j < i then j else i) = min i j := by split <;> omega
  rw [e]; exact h2
theorem sum_ok (hc : X.calm = true) : CallR X (.builtin "sum") (liftC X.K (bi3 .sum)) := by
  intro pins s σ H xs us Q I rx h
  obtain ⟨ds, M, Q3, hr, rs, hh, L⟩ := h
  obtain ⟨d, rfl, h⟩ := one_inv hh
  obtain ⟨v, rfl, r⟩ := Reps1 rs
  obtain ⟨ns, e, h1⟩ := some3_inv h
  obtain ⟨a, rfl, s1⟩ := intsAt hr r e
  exact cr_sum hc pins s σ H _ us Q I rx ⟨_, ns, rfl, s1, L.here hr (.int _) h1⟩
theorem sorted_ok : CallR X (.builtin "sorted") (liftC X.K (bi3 .sorted)) := by
  intro pins s σ H xs us Q I rx h
  obtain ⟨ds, M, Q3, hr, rs, hh, L⟩ := h
  obtain ⟨d, rfl, h⟩ := one_inv hh
  obtain ⟨v, rfl, r⟩ := Reps1 rs
  obtain ⟨ns, e, h1⟩ := some3_inv h
  obtain ⟨a, rfl, s1⟩ := intsAt hr r e
  exact cr_sortedI pins s σ H _ us Q I rx ⟨_, ns, rfl, s1, fun ns' p g1 g2 e => newL_ok hr (Reps.of_ints ns') (h1 ns' g1 g2) L p e⟩
theorem all_ok (hc : X.calm = true) : CallR X (.builtin "all") (liftC X.K (bi3 .all)) := by
  intro pins s σ H xs us Q I rx h
  obtain ⟨ds, M, Q3, hr, rs, hh, L⟩ := h
  obtain ⟨d, rfl, h⟩ := one_inv hh
  obtain ⟨v, rfl, r⟩ := Reps1 rs
  obtain ⟨ns, e, h1⟩ := some3_inv h
  obtain ⟨a, rfl, s1⟩ := blsAt hr r e
  exact cr_all hc pins s σ H _ us Q I rx ⟨_, ns, rfl, s1, L.here hr (.bl _) h1⟩
theorem any_ok (hc : X.calm = true) : CallR X (.builtin "any") (liftC X.K (bi3 .any)) := by
  intro pins s σ H xs us Q I rx h
  obtain ⟨ds, M, Q3, hr, rs, hh, L⟩ := h
  obtain ⟨d, rfl, h⟩ := one_inv hh
  obtain ⟨v, rfl, r⟩ := Reps1 rs
  obtain ⟨ns, e, h1⟩ := some3_inv h
  obtain ⟨a, rfl, s1⟩ := blsAt hr r e
  exact cr_any hc pins s σ H _ us Q I rx ⟨_, ns, rfl, s1, L.here hr (.bl _) h1⟩
theorem keys_reps {K : PySem.W.Frag} {H : Hp} : ∀ {xs : List (Key × V)} {l : List (Key × D)}, PK3 K H xs l → Reps K H (xs.map fun kv => kV kv.1) (l.map fun kv => keyV kv.1)
  | _, _, .nil => .nil
  | p :: _, q :: _, .cons r rs => by
    refine .cons ?_ (keys_reps rs)
    show Rep K H (kV p.1) (keyV q.1)
    rw [← r.1]
    cases p.1 with
    | inl i => exact .int i
    | inr i => exact .str i
theorem list_ok (hc : X.calm = true) : CallR X (.type "list") (liftC X.K (bi3 .list)) := by
  intro pins s σ H xs us Q I rx h
  obtain ⟨ds, M, Q3, hr, rs, hh, L⟩ := h
  obtain ⟨d, rfl, h⟩ := one_inv hh
  obtain ⟨v, rfl, r⟩ := Reps1 rs
  unfold list3 at h
  cases r with
  | tup s1 q => exact call_list_of pins s σ H _ us Q I rx ⟨_, _, rfl, .inr s1, newL_ok hr q h L⟩
  | cl s1 q => exact call_list_of pins s σ H _ us Q I rx ⟨_, _, rfl, .inl s1.l, newL_ok hr q h L⟩
  | ref p =>
    dsimp only at h
    split at h
    · rename_i l e
      obtain ⟨xs, hx, q⟩ := hr.list e
      exact call_list_of pins s σ H _ us Q I rx ⟨_, _, rfl, .inl (SqL.of hx), newL_ok hr q h L⟩
    · rename_i l e
      obtain ⟨xs, hx, q⟩ := hr.dic e
      exact call_list_dK hc pins s σ H _ us Q I rx ⟨_, _, rfl, hx, newL_ok hr (keys_reps q) h L⟩
    · exact h.elim
  | _ => exact h.elim
theorem tuple_ok : CallR X (.type "tuple") (liftC X.K (bi3 .tuple)) := by
  intro pins s σ H xs us Q I rx h
  obtain ⟨ds, M, Q3, hr, rs, hh, L⟩ := h
  obtain ⟨d, rfl, h⟩ := one_inv hh
  obtain ⟨v, rfl, r⟩ := Reps1 rs
  obtain ⟨l, e, h1⟩ := some3_inv h
  cases r with
  | tup s1 q => cases e; exact call_tuple_of pins s σ H _ us Q I rx ⟨_, _, rfl, .inr ⟨s1, L.here hr (.tup s1 q) h1⟩⟩
  | cl s1 q => cases e; exact call_tuple_of pins s σ H _ us Q I rx ⟨_, _, rfl, .inl ⟨s1.l, newT_ok hr q h1 L⟩⟩
  | ref p =>
    obtain ⟨xs, hx, q⟩ := hr.list (getL_some e)
    exact call_tuple_of pins s σ H _ us Q I rx ⟨_, _, rfl, .inl ⟨SqL.of hx, newT_ok hr q h1 L⟩⟩
  | _ => cases e
theorem gcd_ok : CallR X (.builtin "math.gcd") (liftC X.K (bi3 .gcd)) := by
  intro pins s σ H xs us Q I rx h
  obtain ⟨ds, M, Q3, hr, rs, hh, L⟩ := h
  obtain ⟨d, e, rfl, h⟩ := two_inv hh
  obtain ⟨v, w, rfl, r1, r2⟩ := Reps2 rs
  obtain ⟨i, rfl, h1⟩ := isI_inv h
  obtain ⟨j, rfl, h2⟩ := isI_inv h1
  cases r1; cases r2
  exact cr_gcd pins s σ H _ us Q I rx ⟨_, _, rfl, L.here hr (.int _) h2⟩
theorem lcm_ok : CallR X (.builtin "math.lcm") (liftC X.K (bi3 .lcm)) := by
  intro pins s σ H xs us Q I rx h
  obtain ⟨ds, M, Q3, hr, rs, hh, L⟩ := h
  obtain ⟨d, e, rfl, h⟩ := two_inv hh
  obtain ⟨v, w, rfl, r1, r2⟩ := Reps2 rs
  obtain ⟨i, rfl, h1⟩ := isI_inv h
  obtain ⟨j, rfl, h2⟩ := isI_inv h1
  cases r1; cases r2
  obtain ⟨t, u, rfl⟩ := Vals.int2 rx
  exact PySem.W.mc_lcm h2.1 h2.2.1 fun _ => ⟨.int _, H, I.tok _, ⟨_, rfl⟩, L.here hr (.int _) h2.2.2⟩
/-! isinstance -/
theorem tyX_ok {K : PySem.W.Frag} {H : Hp} {M : Mp} {d : D} {v : V} {t : String} (hr : HR K M H) (r : Rep K H v d) (e : tyName d M = some t) : TyX K H v (.type t) := by
  unfold tyName at e
  cases r with
  | non => cases e; exact .base .non
  | bl b => cases e; exact .base (.bl b)
  | int b => cases e; exact .base (.int b)
  | str b => cases e; exact .base (.str b)
  | ty b => cases e
  | tup s q =>
    cases e
    rcases s with (s | ⟨o, s⟩) | ⟨o, its, n, hk, hc, _⟩
    · exact .base (.tup s)
    · exact .fTuple s
    · exact .kTuple hk hc
  | cl s q =>
    cases e
    rcases s with ⟨o, s⟩ | ⟨o, its, n, hk, hc, _⟩
    · exact .base (.frz s)
    · exact .kList hk hc
  | ref p =>
    dsimp only at e
    split at e
    · rename_i l e1
      cases e
      obtain ⟨xs, hx, _⟩ := hr.list e1
      exact .base (.lst hx)
    · rename_i l e1
      cases e
      obtain ⟨xs, hx, _⟩ := hr.dic e1
      exact .base (.dK hx)
    · cases e
def tyNames : List String := ["NoneType", "bool", "int", "str", "tuple", "list", "dict"]
theorem tyName_in {d : D} {M : Mp} {t : String} (e : tyName d M = some t) : t ∈ tyNames := by
  unfold tyName at e
  cases d with
  | ref p =>
    dsimp only at e
    split at e <;> cases e <;> decide
  | ty n => cases e
  | _ => cases e; decide
theorem kit_all : ∀ t ∈ tyNames, ∀ T ∈ askTy, kitB t T = some (isTy t T) := by decide +kernel
theorem kitAny_ok {K : PySem.W.Frag} {t : String} (ht : t ∈ tyNames) : ∀ {ts : List String}, (∀ T ∈ ts, T ∈ askTy) → PySem.W.kitAny K (.type t) (ts.map Value.type) = some (ts.any fun T => isTy t T)
  | [], _ => rfl
  | T :: ts, h => by
    have h1 := kit_ty (K := K) (kit_all t ht T (h T (by simp)))
    have h2 := kitAny_ok (K := K) ht (ts := ts) fun T' hT => h T' (List.mem_cons_of_mem _ hT)
    refine kitAny_cons h1 (fun e => ?_) (fun e => ?_)
    · rw [List.any_cons, e, Bool.false_or]; exact h2
    · rw [List.any_cons, e]; rfl
theorem Reps.tys {K : PySem.W.Frag} {H : Hp} : ∀ {ts : List String} {xs : List V}, Reps K H xs (ts.map D.ty) → Paired ClsV xs (ts.map Value.type)
  | [], _, r => by cases r; exact .nil
  | t :: ts, _, r => by
    cases r with
    | cons r rs => cases r; exact .cons (.ty _) (Reps.tys rs)
/-- the second argument is one type or a display of types -/
def TysD (d : D) (ts : List String) : Prop := match ts with
  | [t] => d = .ty t ∨ d = .tup [.ty t]
  | _ => d = .tup (ts.map .ty)
end
end G3
set_option Elab.async false
set_option linter.all false
set_option maxRecDepth 100000
set_option maxHeartbeats 4000000
/-! own syntax, what it asks -/
namespace G3
open PySem PySem.Spec PyProof.Rows L2

/-! ### methods of lists and dicts -/
inductive Me | append | extend | pop | popAt | reverse | insert | index | get1 | get2
def Me.ty : Me → String
  | .get1 | .get2 => "dict"
  | _ => "list"
def isTyM (T : String) (d : D) (M : Mp) : Prop := match d with
  | .ref p => (match M p with
    | some (.lst _) => T = "list"
    | some (.dic _) => T = "dict"
    | none => False)
  | .cl _ => T = "list"
  | _ => False
def refL (d : D) (M : Mp) (f : Addr → List D → Prop) : Prop := match d with
  | .ref p => (match M p with
    | some (.lst l) => f p l
    | _ => False)
  | _ => False
def refD (d : D) (M : Mp) (f : Addr → List (Key × D) → Prop) : Prop := match d with
  | .ref p => (match M p with
    | some (.dic l) => f p l
    | _ => False)
  | _ => False
theorem refL_inv {d : D} {M : Mp} {f : Addr → List D → Prop} (h : refL d M f) : ∃ p l, d = .ref p ∧ M p = some (.lst l) ∧ f p l := by
  unfold refL at h
  split at h
  · split at h
    · exact ⟨_, _, rfl, by assumption, h⟩
    · exact h.elim
  · exact h.elim
theorem refD_inv {d : D} {M : Mp} {f : Addr → List (Key × D) → Prop} (h : refD d M f) : ∃ p l, d = .ref p ∧ M p = some (.dic l) ∧ f p l := by
  unfold refD at h
  split at h
  · split at h
    · exact ⟨_, _, rfl, by assumption, h⟩
    · exact h.elim
  · exact h.elim
def me3 : Me → D → List D → Mp → K3 → Prop
  | .append, d, ds, M, Q => one ds fun x => refL d M fun p l => l.length < sizeLine ∧ Q .non (put M p (.lst (l ++ [x])))
  | .extend, d, ds, M, Q => one ds fun x => refL d M fun p l => refL x M fun _ m => l.length + m.length ≤ sizeLine ∧ Q .non (put M p (.lst (l ++ m)))
  | .pop, d, ds, M, Q => ds = [] ∧ refL d M fun p l => some3 l[l.length - 1]? fun x => Q x (put M p (.lst l.dropLast))
  | .popAt, d, ds, M, Q => one ds fun x => isI x fun i => refL d M fun p l => some3 (ixN l.length i) fun k => some3 l[k]? fun y => Q y (put M p (.lst (l.eraseIdx k)))
  | .reverse, d, ds, M, Q => ds = [] ∧ refL d M fun p l => Q .non (put M p (.lst l.reverse))
  | .insert, d, ds, M, Q => two ds fun x y => isI x fun i => refL d M fun p l => l.length < sizeLine ∧ 0 ≤ i ∧ i < 2 ^ 63 ∧ Q .non (put M p (.lst (l.take i.toNat ++ [y] ++ l.drop i.toNat)))
  | .index, d, ds, M, Q => one ds fun x => some3 (listAt d M) fun l => flatD x = true ∧ l.all flatD = true ∧ ∃ j z, l[j]? = some z ∧ eqF z x = true ∧ (∀ m z', m < j → l[m]? = some z' → eqF z' x = false) ∧ Q (.int (j : Nat)) M
  | .get1, d, ds, M, Q => one ds fun x => some3 (keyD x) fun k => refD d M fun _ l => Q ((getK l k).getD .non) M
  | .get2, d, ds, M, Q => two ds fun x y => some3 (keyD x) fun k => refD d M fun _ l => Q ((getK l k).getD y) M

/-! ### syntax -/
mutual
inductive Tn where
  | nm (i : Nat)
  | tup (ts : TnL)
inductive TnL where
  | nil
  | cons (t : Tn) (ts : TnL)
end
mutual
inductive E where
  | v (i : Nat)
  | c (d : D)
  | tup (es : EL)
  | lst (es : EL)
  | bin (o : Bop) (a b : E)
  | neg (a : E)
  | cmp (o : Cop) (a b : E)
  | chain (o o' : Cop) (a b d : E)
  | and (es : EL)
  | or (es : EL)
  | not (a : E)
  | ite (t a b : E)
  | ix (a b : E)
  | sl (a : E) (lo hi : EO)
  | rev (a : E)
  | call (x : String) (sp : Sp3) (es : EL)
  | bi (b : Bi) (es : EL)
  | isi (a : E) (ts : List String)
  | lrg (a : E)
  | me (m : Me) (o : E) (es : EL)
  | lc (own : List (String × Nat)) (tn : Tn) (it : It3) (t : EO) (e : E)
  | lc2 (own : List (String × Nat)) (tn : Tn) (it : It3) (vs1 : List Nat) (tn1 : Tn) (it1 : It3) (e : E)
  | dc (own : List (String × Nat)) (tn : Tn) (it : It3) (t : EO) (k e : E)
  | dic0
inductive EO where
  | no
  | ex (e : E)
inductive EL where
  | nil
  | cons (e : E) (es : EL)
inductive It3 where
  | seq (a : E)
  | rng1 (a : E)
  | rng2 (a b : E)
  | rng3 (a b c : E)
  | enum (a : E)
  | zip (a b : E)
end
mutual
inductive S where
  | set (t : Tn) (e : E)
  | setSub (a i e : E)
  | par (i j : Nat) (a b : E)
  | aug (i : Nat) (o : Bop) (e : E)
  | augSub (a i : E) (o : Bop) (e : E)
  | ex (e : E)
  | ret (e : E)
  | ret0
  | ite (t : E) (a b : SL)
  | whil (t : E) (b : SL)
  | for_ (tn : Tn) (it : It3) (b : SL)
  | brk
  | cont
  | pass
inductive SL where
  | nil
  | cons (s : S) (ss : SL)
end

abbrev TI3 := S3 → Mp → (List D → (Mp → Prop) → Mp → Prop) → Prop
/-! ### what a target asks -/
mutual
def wpG : Tn → D → Mp → S3 → (S3 → Prop) → Prop
  | .nm i, d, _, τ, Q => Q (τ.set i (some d))
  | .tup ts, d, M, τ, Q => match d with
    | .tup l => wpGs ts l M τ Q
    | _ => False
def wpGs : TnL → List D → Mp → S3 → (S3 → Prop) → Prop
  | .nil, l, _, τ, Q => l = [] ∧ Q τ
  | .cons t ts, l, M, τ, Q => match l with
    | d :: r => wpG t d M τ fun τ' => wpGs ts r M τ' Q
    | [] => False
end
def wipe3 (τ : S3) : List Nat → S3
  | [] => τ
  | v :: vs => (wipe3 τ vs).set v none
/-- less may be told of the heap -/
def wk (P : Mp → Prop) (M : Mp) : Prop := ∃ M0, Sub M0 M ∧ P M0
theorem wk.of {P : Mp → Prop} {M : Mp} (h : P M) : wk P M := ⟨M, .refl, h⟩
def lcW (ds : List D) (keep : Mp → Prop) (tn : Tn) (vs : List Nat) (tt : TT3) (te : TE3) (τ : S3) (M1 : Mp) (Q : K3) : Prop :=
  ∀ p, M1 p = none → ∃ I : Nat → List D → Mp → Prop, I 0 [] (put M1 p (.lst [])) ∧ ∀ i acc M, I i acc M → i ≤ ds.length → keep M ∧ M p = some (.lst acc) ∧
    (∀ d, ds[i]? = some d → wpG tn d M (wipe3 τ vs) fun τ2 => tt τ2 M fun b M3 =>
      if b = true then te τ2 M3 fun y M4 => acc.length < sizeLine ∧ M4 p = some (.lst acc) ∧ wk (I (i + 1) (acc ++ [y])) (put M4 p (.lst (acc ++ [y]))) else wk (I (i + 1) acc) M3) ∧
    (i = ds.length → wk (Q (.ref p)) M)
def putD (l : List (Key × D)) (k : Key) (x : D) : List (Key × D) := if (l.any fun kv => decide (kv.1 = k)) = true then l.map (fun kv => if kv.1 = k then (kv.1, x) else kv) else l ++ [(k, x)]
/-- {k: v for ..}: keys ints or texts -/
def dcW (ds : List D) (keep : Mp → Prop) (tn : Tn) (vs : List Nat) (tt : TT3) (tk tv : TE3) (τ : S3) (M1 : Mp) (Q : K3) : Prop :=
  ∀ p, M1 p = none → ∃ I : Nat → List (Key × D) → Mp → Prop, I 0 [] (put M1 p (.dic [])) ∧ ∀ i acc M, I i acc M → i ≤ ds.length → keep M ∧ M p = some (.dic acc) ∧
    (∀ d, ds[i]? = some d → wpG tn d M (wipe3 τ vs) fun τ2 => tt τ2 M fun b M3 =>
      if b = true then tk τ2 M3 fun y M4 => tv τ2 M4 fun z M5 => some3 (keyD y) fun k => acc.length < sizeLine ∧ M5 p = some (.dic acc) ∧ wk (I (i + 1) (putD acc k z)) (put M5 p (.dic (putD acc k z))) else wk (I (i + 1) acc) M3) ∧
    (i = ds.length → wk (Q (.ref p)) M)
/-- [e for .. in .. for .. in ..] -/
def lc2W (ds : List D) (keep : Mp → Prop) (tn : Tn) (vs : List Nat) (ti1 : TI3) (tn1 : Tn) (vs1 : List Nat) (te : TE3) (τ : S3) (M1 : Mp) (Q : K3) : Prop :=
  ∀ p, M1 p = none → ∃ I : Nat → List D → Mp → Prop, I 0 [] (put M1 p (.lst [])) ∧ ∀ i acc M, I i acc M → i ≤ ds.length → keep M ∧
    (∀ d, ds[i]? = some d → wpG tn d M (wipe3 τ vs) fun τ2 => ti1 τ2 M fun ds1 keep1 M2 => ∃ I1 : Nat → List D → Mp → Prop, I1 0 acc M2 ∧ ∀ j acc M, I1 j acc M → j ≤ ds1.length → keep1 M ∧
      (∀ d1, ds1[j]? = some d1 → wpG tn1 d1 M (wipe3 τ2 vs1) fun τ3 => te τ3 M fun y M4 => acc.length < sizeLine ∧ M4 p = some (.lst acc) ∧ wk (I1 (j + 1) (acc ++ [y])) (put M4 p (.lst (acc ++ [y])))) ∧
      (j = ds1.length → wk (I (i + 1) acc) M)) ∧
    (i = ds.length → wk (Q (.ref p)) M)
/-- the ints of a range -/
def rgD (i c : Int) (n : Nat) : List D := (List.range n).map fun k => .int (i + (k : Nat) * c)
def seqI (d : D) (M : Mp) (R : List D → (Mp → Prop) → Mp → Prop) : Prop := match d with
  | .tup l => R l (fun _ => True) M
  | .cl l => R l (fun _ => True) M
  | .ref p => (match M p with
    | some (.lst l) => R l (fun M' => M' p = some (.lst l)) M
    | _ => False)
  | _ => False
def enumD (l : List D) : List D := l.mapIdx fun i d => .tup [.int (i : Nat), d]
def zipD (l m : List D) : List D := (l.zip m).map fun p => .tup [p.1, p.2]
def isB3 (d : D) (M : Mp) (Q : Bool → Mp → Prop) : Prop := match d with
  | .bl k => Q k M
  | _ => False
def chain3 (tc : TE3) (r : R23) (e : D) (τ : S3) (z : D) (M : Mp) (Q : K3) : Prop := match z with
  | .bl true => tc τ M fun f M4 => r e f M4 Q
  | .bl false => Q (.bl false) M
  | _ => False
def chainT3 (tc : TE3) (r : R23) (e : D) (τ : S3) (z : D) (M : Mp) (Q : Bool → Mp → Prop) : Prop := match z with
  | .bl true => tc τ M fun f M4 => r e f M4 fun z M3 => isB3 z M3 Q
  | .bl false => Q false M
  | _ => False
def enum3 (d : D) (M : Mp) (R : List D → (Mp → Prop) → Mp → Prop) : Prop := match d with
  | .tup _ => False
  | d => seqI d M fun ds keep M2 => R (enumD ds) keep M2
/-- two lists or two tuples -/
def zip3 (d e : D) (M : Mp) (R : List D → (Mp → Prop) → Mp → Prop) : Prop := match d, e with
  | .tup l, .tup m => R (zipD l m) (fun _ => True) M
  | .tup _, _ => False
  | _, .tup _ => False
  | d, e => seqI d M fun ds keep M3 => seqI e M3 fun es keep' M4 => R (zipD ds es) (fun M => keep M ∧ keep' M) M4
mutual
def wpE : E → TE3
  | .v i, τ, M, Q => some3 τ[i]? fun o => some3 o fun d => Q d M
  | .c d, τ, M, Q => Q d M
  | .tup es, τ, M, Q => wpEL es τ M fun ds M1 => Q (.tup ds) M1
  | .lst es, τ, M, Q => wpEL es τ M fun ds M1 => newL ds M1 Q
  | .bin o a b, τ, M, Q => wpE a τ M fun d M1 => wpE b τ M1 fun e M2 => bin3 o d e M2 Q
  | .neg a, τ, M, Q => wpE a τ M fun d M1 => neg3 d M1 Q
  | .cmp o a b, τ, M, Q => wpE a τ M fun d M1 => wpE b τ M1 fun e M2 => cmp3 o d e M2 Q
  | .chain o o' a b c, τ, M, Q => wpE a τ M fun d M1 => wpE b τ M1 fun e M2 => cmp3 o d e M2 fun z M3 => chain3 (wpE c) (cmp3 o') e τ z M3 Q
  | .and es, τ, M, Q => wpAnd es τ M Q
  | .or es, τ, M, Q => wpOr es τ M Q
  | .not a, τ, M, Q => wpE a τ M fun d M1 => tru3 d M1 fun k M2 => Q (.bl (!k)) M2
  | .ite t a b, τ, M, Q => wpT t τ M fun k M1 => if k = true then wpE a τ M1 Q else wpE b τ M1 Q
  | .ix a b, τ, M, Q => wpE a τ M fun d M1 => wpE b τ M1 fun e M2 => ix3 d e M2 Q
  | .sl a lo hi, τ, M, Q => wpE a τ M fun d M1 => wpO lo τ M1 fun l M2 => wpO hi τ M2 fun h M3 => sl3 d l h M3 Q
  | .rev a, τ, M, Q => wpE a τ M fun d M1 => rev3 d M1 Q
  | .call _ sp es, τ, M, Q => wpEL es τ M fun ds M1 => sp ds M1 Q
  | .bi b es, τ, M, Q => wpEL es τ M fun ds M1 => bi3 b ds M1 Q
  | .isi a ts, τ, M, Q => wpE a τ M fun d M1 => some3 (tyName d M1) fun t => Q (.bl (ts.any fun T => isTy t T)) M1
  | .lrg a, τ, M, Q => wpE a τ M fun d M1 => isI d fun i => i ≤ 16777216 ∧ -16777216 ≤ i ∧ newL (rgD 0 1 i.toNat) M1 Q
  | .me m o es, τ, M, Q => wpE o τ M fun d M1 => isTyM m.ty d M1 ∧ wpEL es τ M1 fun ds M2 => me3 m d ds M2 Q
  | .lc own tn it t e, τ, M, Q => wpI it τ M fun ds keep M1 => lcW ds keep tn (own.map (·.2)) (wpTO t) (wpE e) τ M1 Q
  | .lc2 own tn it vs1 tn1 it1 e, τ, M, Q => wpI it τ M fun ds keep M1 => lc2W ds keep tn (own.map (·.2)) (wpI it1) tn1 vs1 (wpE e) τ M1 Q
  | .dc own tn it t k e, τ, M, Q => wpI it τ M fun ds keep M1 => dcW ds keep tn (own.map (·.2)) (wpTO t) (wpE k) (wpE e) τ M1 Q
  | .dic0, τ, M, Q => ∀ p, M p = none → Q (.ref p) (put M p (.dic []))
def wpEL : EL → TA3
  | .nil, τ, M, Q => Q [] M
  | .cons e es, τ, M, Q => wpE e τ M fun d M1 => wpEL es τ M1 fun ds M2 => Q (d :: ds) M2
/-- a part of a slice -/
def wpO : EO → S3 → Mp → (Option Int → Mp → Prop) → Prop
  | .no, τ, M, Q => Q none M
  | .ex e, τ, M, Q => wpE e τ M fun d M1 => isI d fun i => Q (some i) M1
/-- a comprehension's test -/
def wpTO : EO → TT3
  | .no, τ, M, Q => Q true M
  | .ex e, τ, M, Q => wpT e τ M Q
def wpAnd : EL → TE3
  | .nil, τ, M, Q => False
  | .cons e es, τ, M, Q => match es with
    | .nil => wpE e τ M Q
    | .cons _ _ => wpE e τ M fun d M1 => tru3 d M1 fun k M2 => if k = true then wpAnd es τ M2 Q else Q d M2
def wpOr : EL → TE3
  | .nil, τ, M, Q => False
  | .cons e es, τ, M, Q => match es with
    | .nil => wpE e τ M Q
    | .cons _ _ => wpE e τ M fun d M1 => tru3 d M1 fun k M2 => if k = true then Q d M2 else wpOr es τ M2 Q
def wpT : E → TT3
  | .not a, τ, M, Q => wpT a τ M fun k M1 => Q (!k) M1
  | .and es, τ, M, Q => wpAndT es τ M Q
  | .or es, τ, M, Q => wpOrT es τ M Q
  | .ite t a b, τ, M, Q => wpT t τ M fun k M1 => if k = true then wpT a τ M1 Q else wpT b τ M1 Q
  | .cmp o a b, τ, M, Q => wpE a τ M fun d M1 => wpE b τ M1 fun e M2 => cmp3 o d e M2 fun z M3 => isB3 z M3 Q
  | .chain o o' a b c, τ, M, Q => wpE a τ M fun d M1 => wpE b τ M1 fun e M2 => cmp3 o d e M2 fun z M3 => chainT3 (wpE c) (cmp3 o') e τ z M3 Q
  | .v i, τ, M, Q => some3 τ[i]? fun o => some3 o fun d => tru3 d M Q
  | .c d, τ, M, Q => tru3 d M Q
  | .tup es, τ, M, Q => wpEL es τ M fun ds M1 => tru3 (.tup ds) M1 Q
  | .lst es, τ, M, Q => wpEL es τ M fun ds M1 => newL ds M1 fun d M2 => tru3 d M2 Q
  | .bin o a b, τ, M, Q => wpE a τ M fun d M1 => wpE b τ M1 fun e M2 => bin3 o d e M2 fun d M2 => tru3 d M2 Q
  | .ix a b, τ, M, Q => wpE a τ M fun d M1 => wpE b τ M1 fun e M2 => ix3 d e M2 fun d M2 => tru3 d M2 Q
  | .call _ sp es, τ, M, Q => wpEL es τ M fun ds M1 => sp ds M1 fun d M2 => tru3 d M2 Q
  | .bi b es, τ, M, Q => wpEL es τ M fun ds M1 => bi3 b ds M1 fun d M2 => tru3 d M2 Q
  | .isi a ts, τ, M, Q => wpE a τ M fun d M1 => some3 (tyName d M1) fun t => Q (ts.any fun T => isTy t T) M1
  | _, _, _, _ => False
def wpAndT : EL → TT3
  | .nil, τ, M, Q => Q true M
  | .cons e es, τ, M, Q => wpT e τ M fun k M1 => if k = true then wpAndT es τ M1 Q else Q false M1
def wpOrT : EL → TT3
  | .nil, τ, M, Q => Q false M
  | .cons e es, τ, M, Q => wpT e τ M fun k M1 => if k = true then Q true M1 else wpOrT es τ M1 Q
def wpI : It3 → TI3
  | .seq a, τ, M, R => wpE a τ M fun d M1 => seqI d M1 R
  | .rng1 a, τ, M, R => wpE a τ M fun d M1 => isI d fun j => -(2 ^ 62) ≤ j ∧ j < 2 ^ 62 ∧ R (rgD 0 1 j.toNat) (fun _ => True) M1
  | .rng2 a b, τ, M, R => wpE a τ M fun d M1 => wpE b τ M1 fun e M2 => isI d fun i => isI e fun j => (-(2 ^ 62) ≤ i ∧ i < 2 ^ 62 ∧ -(2 ^ 62) ≤ j ∧ j < 2 ^ 62) ∧ R (rgD i 1 (j - i).toNat) (fun _ => True) M2
  | .rng3 a b c, τ, M, R => wpE a τ M fun d M1 => wpE b τ M1 fun e M2 => wpE c τ M2 fun f M3 => isI d fun i => isI e fun j => isI f fun k => ∃ n, RgC i j k n ∧ R (rgD i k n) (fun _ => True) M3
  | .enum a, τ, M, R => wpE a τ M fun d M1 => enum3 d M1 R
  | .zip a b, τ, M, R => wpE a τ M fun d M1 => wpE b τ M1 fun e M2 => zip3 d e M2 R
end
/-- the bounds of a product in place -/
def MulOk' (i j : Int) : Prop := (-(2 ^ 64) < i ∧ i < 2 ^ 64) ∨ (-(2 ^ 64) < j ∧ j < 2 ^ 64)
structure Ends3 where
  nx : S3 → Mp → Prop
  rt : K3
  bk : S3 → Mp → Prop := fun _ _ => False
  ct : S3 → Mp → Prop := fun _ _ => False
abbrev TS3 := Ends3 → S3 → Mp → Prop
def set3 (d e x : D) (M : Mp) (Q : Mp → Prop) : Prop := match d with
  | .ref p => (match M p with
    | some (.lst l) => isI e fun i => some3 (ixN l.length i) fun k => Q (put M p (.lst (l.set k x)))
    | some (.dic l) => some3 (keyD e) fun k => l.length < sizeLine ∧ Q (put M p (.dic (putD l k x)))
    | none => False)
  | _ => False
def forW (ds : List D) (keep : Mp → Prop) (tn : Tn) (body : TS3) (D : Ends3) (τ : S3) (M1 : Mp) : Prop :=
  ∃ I : Nat → S3 → Mp → Prop, I 0 τ M1 ∧ ∀ i τ M, I i τ M → i ≤ ds.length → keep M ∧
    (∀ d, ds[i]? = some d → wpG tn d M τ fun τ2 => body { D with nx := fun τ M => wk (I (i + 1) τ) M, ct := fun τ M => wk (I (i + 1) τ) M, bk := D.nx } τ2 M) ∧
    (i = ds.length → wk (D.nx τ) M)
def whileW (t : TT3) (body : TS3) (D : Ends3) (τ : S3) (M1 : Mp) : Prop :=
  ∃ I : Nat → S3 → Mp → Prop, (∃ n, I n τ M1) ∧ ∀ n τ M, I n τ M → t τ M fun k M1 =>
    if k = true then body { D with nx := fun τ M => ∃ m, m < n ∧ wk (I m τ) M, ct := fun τ M => ∃ m, m < n ∧ wk (I m τ) M, bk := D.nx } τ M1 else wk (D.nx τ) M1
/-- what is read and stored again -/
def getR3 (d e : D) (M : Mp) (Q : K3) : Prop := match d with
  | .ref _ => ix3 d e M Q
  | _ => False
/-- x op= e: a list grows in its place -/
def aug3 : Bop → R23
  | .add, .ref p, .ref q, M, Q => (match getL M p, getL M q with
    | some a, some b => a.length + b.length ≤ sizeLine ∧ Q (.ref p) (put M p (.lst (a ++ b)))
    | _, _ => False)
  | .add, .int i, .int j, M, Q => Q (.int (i + j)) M
  | .add, .str x, .str y, M, Q => x.length + y.length ≤ sizeLine ∧ Q (.str (x ++ y)) M
  | .sub, .int i, .int j, M, Q => Q (.int (i - j)) M
  | .mul, .int i, .int j, M, Q => MulOk' i j ∧ Q (.int (i * j)) M
  | .fdiv, .int i, .int j, M, Q => (0 < j ∧ j < 1073741824) ∧ Q (.int (i / j)) M
  | .mod, .int i, .int j, M, Q => 0 < j ∧ Q (.int (i % j)) M
  | _, _, _, _, _ => False
mutual
def wpS : S → TS3
  | .set t e, D, τ, M => wpE e τ M fun d M1 => wpG t d M1 τ fun τ' => D.nx τ' M1
  | .setSub a i e, D, τ, M => wpE e τ M fun x M1 => wpE a τ M1 fun d M2 => wpE i τ M2 fun y M3 => set3 d y x M3 fun M4 => D.nx τ M4
  | .par i j a b, D, τ, M => wpE a τ M fun d M1 => wpE b τ M1 fun e M2 => D.nx ((τ.set i (some d)).set j (some e)) M2
  | .aug i o e, D, τ, M => some3 τ[i]? fun o' => some3 o' fun x => wpE e τ M fun y M1 => aug3 o x y M1 fun z M2 => D.nx (τ.set i (some z)) M2
  | .augSub a i o e, D, τ, M => wpE a τ M fun d M1 => wpE i τ M1 fun k M2 => getR3 d k M2 fun x M3 => wpE e τ M3 fun y M4 => aug3 o x y M4 fun z M5 => set3 d k z M5 fun M6 => D.nx τ M6
  | .ex e, D, τ, M => wpE e τ M fun _ M1 => D.nx τ M1
  | .ret e, D, τ, M => wpE e τ M D.rt
  | .ret0, D, τ, M => D.rt .non M
  | .ite t a b, D, τ, M => wpT t τ M fun k M1 => if k = true then wpSs a D τ M1 else wpSs b D τ M1
  | .whil t b, D, τ, M => whileW (wpT t) (wpSs b) D τ M
  | .for_ tn it b, D, τ, M => wpI it τ M fun ds keep M1 => forW ds keep tn (wpSs b) D τ M1
  | .brk, D, τ, M => D.bk τ M
  | .cont, D, τ, M => D.ct τ M
  | .pass, D, τ, M => D.nx τ M
def wpSs : SL → TS3
  | .nil, D, τ, M => D.nx τ M
  | .cons s ss, D, τ, M => wpS s { D with nx := wpSs ss D } τ M
end
end G3
set_option Elab.async false
set_option linter.all false
set_option maxRecDepth 100000
set_option maxHeartbeats 4000000
/-! the readings lifted to values by content -/
namespace G3
open PySem PySem.Spec PyProof.Rows L2

section
variable (K : PySem.W.Frag)
def lift (t : TE3) : TE := fun σ H Q => ∃ τ M Q3, HR K M H ∧ Slots K H σ τ ∧ t τ M Q3 ∧ Lnk K H Q3 Q
def liftT (t : TT3) : TT := fun σ H Q => ∃ τ M Q3, HR K M H ∧ Slots K H σ τ ∧ t τ M Q3 ∧ ∀ b H' M', Q3 b M' → Grow K H H' → HR K M' H' → Q b H'
def liftA (n : Nat) (t : TA3) : TA := fun σ H Q => ∃ τ M Q3, HR K M H ∧ Slots K H σ τ ∧ t τ M Q3 ∧ ∀ vs H' ds M', Q3 ds M' → Grow K H H' → HR K M' H' → Reps K H' vs ds → ds.length = n → Q vs H'
structure EL' (H : Hp) (D3 : Ends3) (D : Ends) : Prop where
  nx : ∀ σ' H' τ' M', D3.nx τ' M' → Grow K H H' → HR K M' H' → Slots K H' σ' τ' → D.nx σ' H'
  rt : Lnk K H D3.rt D.rt
  bk : ∀ σ' H' τ' M', D3.bk τ' M' → Grow K H H' → HR K M' H' → Slots K H' σ' τ' → D.bk σ' H'
  ct : ∀ σ' H' τ' M', D3.ct τ' M' → Grow K H H' → HR K M' H' → Slots K H' σ' τ' → D.ct σ' H'
def liftS (t : TS3) : TS := fun D σ H => ∃ τ M D3, HR K M H ∧ Slots K H σ τ ∧ t D3 τ M ∧ EL' K H D3 D
/-- what is walked: J yields ds as long as keep stands -/
def ItOk (H0 : Hp) (J : It) (ds : List D) (keep : Mp → Prop) : Prop :=
  (∀ i H M d, Grow K H0 H → HR K M H → keep M → ds[i]? = some d → J.go i H ∧ ∀ x H', J.yld i H x H' → Grow K H H' ∧ HR K M H' ∧ Rep K H' x d) ∧
  (∀ i H M, Grow K H0 H → HR K M H → keep M → ds.length ≤ i → J.stop i H)
def liftI (t : TI3) : TI := fun σ H R => ∃ τ M R3, HR K M H ∧ Slots K H σ τ ∧ t τ M R3 ∧ ∀ J ds keep H' M', R3 ds keep M' → Grow K H H' → HR K M' H' → ItOk K H' J ds keep → R J H'
end
section
variable {K : PySem.W.Frag}
theorem EL'.from {H H1 : Hp} {D3 : Ends3} {D : Ends} (e : EL' K H D3 D) (g : Grow K H H1) : EL' K H1 D3 D :=
  ⟨fun a b c d q g' => e.nx a b c d q (g.trans g'), e.rt.from g, fun a b c d q g' => e.bk a b c d q (g.trans g'), fun a b c d q g' => e.ct a b c d q (g.trans g')⟩
end
section
variable {X : Cx}
theorem PEw {e : Expr} {t t' : TE} (h : PE X e t') (w : ∀ σ H Q, t σ H Q → t' σ H Q) : PE X e t := ⟨fun pins s σ H Q I q => h.run pins s σ H Q I (w σ H Q q)⟩
theorem PTw {e : Expr} {t t' : TT} (h : PT X e t') (w : ∀ σ H Q, t σ H Q → t' σ H Q) : PT X e t := ⟨fun pins s σ H Q I q => h.run pins s σ H Q I (w σ H Q q)⟩
theorem PWw {e : Expr} {t t' : TT} (h : PW X e t') (w : ∀ σ H Q, t σ H Q → t' σ H Q) : PW X e t := ⟨fun wh pins s σ H Q I q => h.run wh pins s σ H Q I (w σ H Q q)⟩
theorem PAw {e : List Expr} {t t' : TA} (h : PA X e t') (w : ∀ σ H Q, t σ H Q → t' σ H Q) : PA X e t := ⟨fun p pins s σ H Q I q => h.run p pins s σ H Q I (w σ H Q q)⟩
theorem PSw {e : Stmt} {t t' : TS} (h : PS X e t') (w : ∀ D σ H, t D σ H → t' D σ H) : PS X e t := ⟨fun pins s σ H D I q => h.run pins s σ H D I (w D σ H q)⟩
theorem PSsw {e : List Stmt} {t t' : TS} (h : PSs X e t') (w : ∀ D σ H, t D σ H → t' D σ H) : PSs X e t := ⟨fun pins s σ H D I q => h.run pins s σ H D I (w D σ H q)⟩
theorem PIw {tg e : Expr} {t t' : TI} (h : PI X tg e t') (w : ∀ σ H R, t σ H R → t' σ H R) : PI X tg e t := ⟨fun pins s σ H R I q => h.run pins s σ H R I (w σ H R q)⟩
variable {a b c e : Expr} {ta tb tc te : TE3} {pos : Pos}
/-- one value, then a rule of it -/
theorem lift_then {σ : L2.St} {H : Hp} {Q : VK} {r : D → Mp → K3 → Prop} {R : V → Hp → VK → Prop} (h : lift X.K (fun τ M Q => ta τ M fun d M1 => r d M1 Q) σ H Q)
    (hr : ∀ v H1, lift1 X.K r v H1 Q → R v H1 Q) : lift X.K ta σ H fun v H1 => R v H1 Q := by
  obtain ⟨τ, M, Q3, hr', sl, h, L⟩ := h
  exact ⟨τ, M, _, hr', sl, h, fun v H1 d M1 h1 g1 hr1 r1 => hr v H1 ⟨d, M1, Q3, hr1, r1, h1, L.from g1⟩⟩
/-- two values, then a rule of both -/
theorem lift_then2 {σ : L2.St} {H : Hp} {Q : VK} {r : R23} {R : R2} (h : lift X.K (fun τ M Q => ta τ M fun d M1 => tb τ M1 fun e M2 => r d e M2 Q) σ H Q)
    (hr : ∀ v w H1, lift2 X.K r v w H1 Q → R v w H1 Q) : lift X.K ta σ H fun v H1 => lift X.K tb σ H1 fun w H2 => R v w H2 Q := by
  obtain ⟨τ, M, Q3, hr', sl, h, L⟩ := h
  exact ⟨τ, M, _, hr', sl, h, fun v H1 d M1 h1 g1 hr1 r1 => ⟨τ, M1, _, hr1, sl.mono g1, h1, fun w H2 e M2 h2 g2 hr2 r2 => hr v w H2 ⟨d, e, M2, Q3, hr2, Rep.mono g2 d r1, r2, h2, L.from (g1.trans g2)⟩⟩⟩
theorem le_bin {op : Operator} {r : R23} (ho : OpR X (binaryOp op) (lift2 X.K r)) (ha : PE X a (lift X.K ta)) (hb : PE X b (lift X.K tb)) :
    PE X (.BinOp a op b pos) (lift X.K fun τ M Q => ta τ M fun d M1 => tb τ M1 fun e M2 => r d e M2 Q) :=
  PEw (pe_op ho ha hb) fun σ H Q h => lift_then2 h fun v w H1 q => q
theorem le_un {op : UnaryOp} {r : D → Mp → K3 → Prop} (ho : UnR X (unaryOp op) (lift1 X.K r)) (ha : PE X a (lift X.K ta)) :
    PE X (.UnaryOp op a pos) (lift X.K fun τ M Q => ta τ M fun d M1 => r d M1 Q) :=
  PEw (pe_un ho ha) fun σ H Q h => lift_then h fun v H1 q => q
theorem le_cmp {op : CmpOp} {r : R23} (ho : OpR X (compareOp op) (lift2 X.K r)) (ha : PE X a (lift X.K ta)) (hb : PE X b (lift X.K tb)) (hm : behindInMarks op b = false) :
    PE X (.Compare a [op] [b] pos) (lift X.K fun τ M Q => ta τ M fun d M1 => tb τ M1 fun e M2 => r d e M2 Q) :=
  PEw (pe_cmpR ho ha hb hm) fun σ H Q h => lift_then2 h fun v w H1 q => q
theorem isB_ok {H H0 : Hp} {M : Mp} {d : D} {v : V} {Q3 : Bool → Mp → Prop} {Q : Bool → Hp → Prop} (h : isB3 d M Q3) (r : Rep X.K H v d) (hr : HR X.K M H) (g : Grow X.K H0 H)
    (L : ∀ b H' M', Q3 b M' → Grow X.K H0 H' → HR X.K M' H' → Q b H') : ∃ k, v = .bl k ∧ Q k H := by
  unfold isB3 at h
  cases r <;> try exact h.elim
  exact ⟨_, rfl, L _ _ _ h g hr⟩
theorem lt_cmp {op : CmpOp} {r : R23} (ho : OpR X (compareOp op) (lift2 X.K r)) (ha : PE X a (lift X.K ta)) (hb : PE X b (lift X.K tb)) (hm : behindInMarks op b = false) :
    PT X (.Compare a [op] [b] pos) (liftT X.K fun τ M Q => ta τ M fun d M1 => tb τ M1 fun e M2 => r d e M2 fun z M3 => isB3 z M3 Q) :=
  PTw (pt_cmpR ho ha hb hm) fun σ H Q h => by
    obtain ⟨τ, M, Q3, hr, sl, h, L⟩ := h
    exact ⟨τ, M, _, hr, sl, h, fun v H1 d M1 h1 g1 hr1 r1 => ⟨τ, M1, _, hr1, sl.mono g1, h1, fun w H2 e M2 h2 g2 hr2 r2 => ⟨d, e, M2, _, hr2, Rep.mono g2 d r1, r2, h2, fun z H3 f M3 h3 g3 hr3 r3 =>
      isB_ok h3 r3 hr3 ((g1.trans g2).trans g3) L⟩⟩⟩
theorem le_chain {op op' : CmpOp} {r r' : R23} (ho : OpR X (compareOp op) (lift2 X.K r)) (ho' : OpR X (compareOp op') (lift2 X.K r')) (ha : PE X a (lift X.K ta)) (hb : PE X b (lift X.K tb)) (hc : PE X c (lift X.K tc))
    (hm : lastMarks [op, op'] [b, c] = false) :
    PE X (.Compare a [op, op'] [b, c] pos) (lift X.K fun τ M Q => ta τ M fun d M1 => tb τ M1 fun e M2 => r d e M2 fun z M3 => chain3 tc r' e τ z M3 Q) :=
  PEw (pe_chain ho ho' ha hb hc hm) fun σ H Q h => by
    obtain ⟨τ, M, Q3, hr, sl, h, L⟩ := h
    refine ⟨τ, M, _, hr, sl, h, fun v H1 d M1 h1 g1 hr1 r1 => ⟨τ, M1, _, hr1, sl.mono g1, h1, fun w H2 e M2 h2 g2 hr2 r2 => ⟨d, e, M2, _, hr2, Rep.mono g2 d r1, r2, h2, fun z H3 f M3 h3 g3 hr3 r3 => ?_⟩⟩⟩
    have g := (g1.trans g2).trans g3
    unfold chain3 at h3
    cases r3 <;> try exact h3.elim
    rename_i k
    cases k with
    | false => exact ⟨_, rfl, by rw [if_neg Bool.false_ne_true]; exact L.from g |>.here hr3 (.bl _) h3⟩
    | true => exact ⟨_, rfl, by rw [if_pos rfl]; exact ⟨τ, M3, _, hr3, sl.mono g, h3, fun y H4 f M4 h4 g4 hr4 r4 => ⟨e, f, M4, _, hr4, Rep.mono (g3.trans g4) e r2, r4, h4, L.from (g.trans g4)⟩⟩⟩
theorem lt_chain {op op' : CmpOp} {r r' : R23} (ho : OpR X (compareOp op) (lift2 X.K r)) (ho' : OpR X (compareOp op') (lift2 X.K r')) (ha : PE X a (lift X.K ta)) (hb : PE X b (lift X.K tb)) (hc : PE X c (lift X.K tc))
    (hm : lastMarks [op, op'] [b, c] = false) :
    PT X (.Compare a [op, op'] [b, c] pos) (liftT X.K fun τ M Q => ta τ M fun d M1 => tb τ M1 fun e M2 => r d e M2 fun z M3 => chainT3 tc r' e τ z M3 Q) :=
  PTw (pt_chain ho ho' ha hb hc hm) fun σ H Q h => by
    obtain ⟨τ, M, Q3, hr, sl, h, L⟩ := h
    refine ⟨τ, M, _, hr, sl, h, fun v H1 d M1 h1 g1 hr1 r1 => ⟨τ, M1, _, hr1, sl.mono g1, h1, fun w H2 e M2 h2 g2 hr2 r2 => ⟨d, e, M2, _, hr2, Rep.mono g2 d r1, r2, h2, fun z H3 f M3 h3 g3 hr3 r3 => ?_⟩⟩⟩
    have g := (g1.trans g2).trans g3
    unfold chainT3 at h3
    cases r3 <;> try exact h3.elim
    rename_i k
    cases k with
    | false => exact ⟨_, rfl, by rw [if_neg Bool.false_ne_true]; exact ⟨_, rfl, L _ _ _ h3 g hr3⟩⟩
    | true =>
      refine ⟨_, rfl, ?_⟩
      rw [if_pos rfl]
      exact ⟨τ, M3, _, hr3, sl.mono g, h3, fun y H4 f M4 h4 g4 hr4 r4 => ⟨e, f, M4, _, hr4, Rep.mono (g3.trans g4) e r2, r4, h4, fun z H5 f M5 h5 g5 hr5 r5 => isB_ok h5 r5 hr5 ((g.trans g4).trans g5) L⟩⟩
theorem lt_truth (ha : PE X a (lift X.K ta)) (he : ∀ whole, isTrue a X.env whole = (do let v ← whole; standAt a.pos; holding [v] (truthy v))) : PT X a (liftT X.K fun τ M Q => ta τ M fun d M1 => tru3 d M1 Q) :=
  PTw (pt_truth ha he) fun σ H Q h => by
    obtain ⟨τ, M, Q3, hr, sl, h, L⟩ := h
    exact ⟨τ, M, _, hr, sl, h, fun v H1 d M1 h1 g1 hr1 r1 => let ⟨k, tk, q⟩ := tru3_ok hr1 r1 h1; ⟨k, tk, L _ _ _ q g1 hr1⟩⟩
theorem lt_not {tt : TT3} (ha : PT X a (liftT X.K tt)) : PT X (.UnaryOp .Not a pos) (liftT X.K fun τ M Q => tt τ M fun k M1 => Q (!k) M1) :=
  PTw (pt_not ha) fun σ H Q h => by
    obtain ⟨τ, M, Q3, hr, sl, h, L⟩ := h
    exact ⟨τ, M, _, hr, sl, h, fun b H1 M1 h1 g1 hr1 => L _ _ _ h1 g1 hr1⟩
theorem le_not (ha : PE X a (lift X.K ta)) : PE X (.UnaryOp .Not a pos) (lift X.K fun τ M Q => ta τ M fun d M1 => tru3 d M1 fun k M2 => Q (.bl (!k)) M2) :=
  PEw (pe_notT ha) fun σ H Q h => by
    obtain ⟨τ, M, Q3, hr, sl, h, L⟩ := h
    exact ⟨τ, M, _, hr, sl, h, fun v H1 d M1 h1 g1 hr1 r1 => let ⟨k, tk, q⟩ := tru3_ok hr1 r1 h1; ⟨k, tk, L.from g1 |>.here hr1 (.bl _) q⟩⟩
theorem lt_ite {tt ua ub : TT3} (ht : PT X c (liftT X.K tt)) (ha : PT X a (liftT X.K ua)) (hb : PT X b (liftT X.K ub)) : PT X (.IfExp c a b pos) (liftT X.K fun τ M Q => tt τ M fun k M1 => if k = true then ua τ M1 Q else ub τ M1 Q) := by
  refine ⟨fun pins s σ H Q I h => ?_⟩
  obtain ⟨τ, M, Q3, hr, sl, h, L⟩ := h
  refine isTrue_IfExp (thn (ht.run pins s σ H (fun k H1 => if k = true then liftT X.K ua σ H1 Q else liftT X.K ub σ H1 Q) I ⟨τ, M, _, hr, sl, h, fun k H1 M1 h1 g1 hr1 => ?_⟩) fun d s1 ⟨H1, I1, q1⟩ => ?_)
  · cases k with
    | true => rw [if_pos rfl] at h1 ⊢; exact ⟨τ, M1, _, hr1, sl.mono g1, h1, fun b H' M' q g => L b H' M' q (g1.trans g)⟩
    | false => rw [if_neg Bool.false_ne_true] at h1 ⊢; exact ⟨τ, M1, _, hr1, sl.mono g1, h1, fun b H' M' q g => L b H' M' q (g1.trans g)⟩
  · cases d with
    | true => exact ha.run pins s1 σ H1 Q I1 q1
    | false => exact hb.run pins s1 σ H1 Q I1 q1
theorem le_ite {tt : TT3} (ht : PT X c (liftT X.K tt)) (ha : PE X a (lift X.K ta)) (hb : PE X b (lift X.K tb)) : PE X (.IfExp c a b pos) (lift X.K fun τ M Q => tt τ M fun k M1 => if k = true then ta τ M1 Q else tb τ M1 Q) :=
  PEw (pe_ifExp ht ha hb) fun σ H Q h => by
    obtain ⟨τ, M, Q3, hr, sl, h, L⟩ := h
    refine ⟨τ, M, _, hr, sl, h, fun k H1 M1 h1 g1 hr1 => ?_⟩
    cases k with
    | true => rw [if_pos rfl] at h1 ⊢; exact ⟨τ, M1, _, hr1, sl.mono g1, h1, L.from g1⟩
    | false => rw [if_neg Bool.false_ne_true] at h1 ⊢; exact ⟨τ, M1, _, hr1, sl.mono g1, h1, L.from g1⟩
/-! and, or: tests -/
variable {tt uu : TT3} {rest : List Expr}
theorem lw_and1 (ha : PT X a (liftT X.K tt)) : PW X (.BoolOp .And [a] pos) (liftT X.K fun τ M Q => tt τ M fun k M1 => if k = true then Q true M1 else Q false M1) :=
  PWw (pw_and1 ha) fun σ H Q h => by
    obtain ⟨τ, M, Q3, hr, sl, h, L⟩ := h
    refine ⟨τ, M, _, hr, sl, h, fun b H1 M1 h1 g1 hr1 => ?_⟩
    cases b <;> exact L _ _ _ h1 g1 hr1
theorem lw_or1 (ha : PT X a (liftT X.K tt)) : PW X (.BoolOp .Or [a] pos) (liftT X.K fun τ M Q => tt τ M fun k M1 => if k = true then Q true M1 else Q false M1) :=
  PWw (pw_or1 ha) fun σ H Q h => by
    obtain ⟨τ, M, Q3, hr, sl, h, L⟩ := h
    refine ⟨τ, M, _, hr, sl, h, fun b H1 M1 h1 g1 hr1 => ?_⟩
    cases b <;> exact L _ _ _ h1 g1 hr1
theorem lw_and (ha : PT X a (liftT X.K tt)) (hb : PW X (.BoolOp .And (b :: rest) pos) (liftT X.K uu)) : PW X (.BoolOp .And (a :: b :: rest) pos) (liftT X.K fun τ M Q => tt τ M fun k M1 => if k = true then uu τ M1 Q else Q false M1) :=
  PWw (pw_and ha hb) fun σ H Q h => by
    obtain ⟨τ, M, Q3, hr, sl, h, L⟩ := h
    refine ⟨τ, M, _, hr, sl, h, fun k H1 M1 h1 g1 hr1 => ?_⟩
    cases k with
    | true => rw [if_pos rfl] at h1 ⊢; exact ⟨τ, M1, _, hr1, sl.mono g1, h1, fun b H' M' q g => L b H' M' q (g1.trans g)⟩
    | false => rw [if_neg Bool.false_ne_true] at h1 ⊢; exact L _ _ _ h1 g1 hr1
theorem lw_or (ha : PT X a (liftT X.K tt)) (hb : PW X (.BoolOp .Or (b :: rest) pos) (liftT X.K uu)) : PW X (.BoolOp .Or (a :: b :: rest) pos) (liftT X.K fun τ M Q => tt τ M fun k M1 => if k = true then Q true M1 else uu τ M1 Q) :=
  PWw (pw_or ha hb) fun σ H Q h => by
    obtain ⟨τ, M, Q3, hr, sl, h, L⟩ := h
    refine ⟨τ, M, _, hr, sl, h, fun k H1 M1 h1 g1 hr1 => ?_⟩
    cases k with
    | false => rw [if_neg Bool.false_ne_true] at h1 ⊢; exact ⟨τ, M1, _, hr1, sl.mono g1, h1, fun b H' M' q g => L b H' M' q (g1.trans g)⟩
    | true => rw [if_pos rfl] at h1 ⊢; exact L _ _ _ h1 g1 hr1
/-! .. values -/
theorem le_and (ha : PE X a (lift X.K ta)) (hb : PE X (.BoolOp .And (b :: rest) pos) (lift X.K tb)) : PE X (.BoolOp .And (a :: b :: rest) pos) (lift X.K fun τ M Q => ta τ M fun d M1 => tru3 d M1 fun k M2 => if k = true then tb τ M2 Q else Q d M2) :=
  PEw (pe_andT ha hb) fun σ H Q h => by
    obtain ⟨τ, M, Q3, hr, sl, h, L⟩ := h
    refine ⟨τ, M, _, hr, sl, h, fun v H1 d M1 h1 g1 hr1 r1 => ?_⟩
    obtain ⟨k, tk, q⟩ := tru3_ok hr1 r1 h1
    refine ⟨k, tk, ?_⟩
    cases k with
    | true => rw [if_pos rfl] at q ⊢; exact ⟨τ, M1, _, hr1, sl.mono g1, q, L.from g1⟩
    | false => rw [if_neg Bool.false_ne_true] at q ⊢; exact L.from g1 |>.here hr1 r1 q
theorem le_or (ha : PE X a (lift X.K ta)) (hb : PE X (.BoolOp .Or (b :: rest) pos) (lift X.K tb)) : PE X (.BoolOp .Or (a :: b :: rest) pos) (lift X.K fun τ M Q => ta τ M fun d M1 => tru3 d M1 fun k M2 => if k = true then Q d M2 else tb τ M2 Q) :=
  PEw (pe_orT ha hb) fun σ H Q h => by
    obtain ⟨τ, M, Q3, hr, sl, h, L⟩ := h
    refine ⟨τ, M, _, hr, sl, h, fun v H1 d M1 h1 g1 hr1 r1 => ?_⟩
    obtain ⟨k, tk, q⟩ := tru3_ok hr1 r1 h1
    refine ⟨k, tk, ?_⟩
    cases k with
    | false => rw [if_neg Bool.false_ne_true] at q ⊢; exact ⟨τ, M1, _, hr1, sl.mono g1, q, L.from g1⟩
    | true => rw [if_pos rfl] at q ⊢; exact L.from g1 |>.here hr1 r1 q
/-! arguments, displays -/
theorem la_nil : PA X [] (liftA X.K 0 fun τ M Q => Q [] M) := PAw pa_nil fun σ H Q h => by
  obtain ⟨τ, M, Q3, hr, sl, h, L⟩ := h
  exact L _ _ _ _ h .refl hr .nil rfl
theorem la_cons {n : Nat} {es : List Expr} {tr : TA3} (ha : PE X e (lift X.K te)) (hr : PA X es (liftA X.K n tr)) (hs : starEach (e :: es) X.env = (false, eval e X.env) :: starEach es X.env) :
    PA X (e :: es) (liftA X.K (n + 1) fun τ M Q => te τ M fun d M1 => tr τ M1 fun ds M2 => Q (d :: ds) M2) := PAw (pa_cons ha hr hs) fun σ H Q h => by
  obtain ⟨τ, M, Q3, hr, sl, h, L⟩ := h
  exact ⟨τ, M, _, hr, sl, h, fun v H1 d M1 h1 g1 hr1 r1 => ⟨τ, M1, _, hr1, sl.mono g1, h1, fun vs H2 ds M2 h2 g2 hr2 r2 hn => L _ _ _ _ h2 (g1.trans g2) hr2 (.cons (Rep.mono g2 d r1) r2) (by rw [List.length_cons, hn])⟩⟩
variable {es : List Expr} {tr : TA3} {n : Nat}
theorem le_tup {x1} (h : PA X es (liftA X.K n tr)) (hl : n ≤ sizeLine) : PE X (.Tuple es x1 pos) (lift X.K fun τ M Q => tr τ M fun ds M1 => Q (.tup ds) M1) := PEw (pe_tup h) fun σ H Q h => by
  obtain ⟨τ, M, Q3, hr, sl, h, L⟩ := h
  exact ⟨τ, M, _, hr, sl, h, fun vs H1 ds M1 h1 g1 hr1 r1 hn => ⟨by rw [r1.length, hn]; exact hl, newT_ok hr1 r1 h1 (L.from g1)⟩⟩
theorem le_lst (h : PA X es (liftA X.K n tr)) (hl : n ≤ sizeLine) : PE X (.List es pos) (lift X.K fun τ M Q => tr τ M fun ds M1 => newL ds M1 Q) := PEw (pe_lst h) fun σ H Q h => by
  obtain ⟨τ, M, Q3, hr, sl, h, L⟩ := h
  exact ⟨τ, M, _, hr, sl, h, fun vs H1 ds M1 h1 g1 hr1 r1 hn => ⟨by rw [r1.length, hn]; exact hl, newL_ok hr1 r1 h1 (L.from g1)⟩⟩
/-! subscripts -/
theorem le_ix (hu : X.A.units + 64 < cLine) (ha : PE X a (lift X.K ta)) (hb : PE X b (lift X.K tb)) (hs : PlainIx b) : PE X (.Subscript a b pos) (lift X.K fun τ M Q => ta τ M fun d M1 => tb τ M1 fun e M2 => ix3 d e M2 Q) :=
  PEw (pe_ix (ix_ok hu) ha hb hs) fun σ H Q h => lift_then2 h fun v w H1 q => q
def liftO (K : PySem.W.Frag) (t : S3 → Mp → (Option Int → Mp → Prop) → Prop) : TO := fun σ H Q => ∃ τ M Q3, HR K M H ∧ Slots K H σ τ ∧ t τ M Q3 ∧ ∀ o H' M', Q3 o M' → Grow K H H' → HR K M' H' → Q o H'
theorem POw {e : Option Expr} {t t' : TO} (h : PO X e t') (w : ∀ σ H Q, t σ H Q → t' σ H Q) : PO X e t := ⟨fun pins s σ H Q I q => h.run pins s σ H Q I (w σ H Q q)⟩
theorem lo_none : PO X none (liftO X.K fun τ M Q => Q none M) := POw po_none fun σ H Q h => by
  obtain ⟨τ, M, Q3, hr, sl, h, L⟩ := h
  exact L _ _ _ h .refl hr
theorem lo_some (ha : PE X a (lift X.K ta)) : PO X (some a) (liftO X.K fun τ M Q => ta τ M fun d M1 => isI d fun i => Q (some i) M1) := POw (po_some ha) fun σ H Q h => by
  obtain ⟨τ, M, Q3, hr, sl, h, L⟩ := h
  refine ⟨τ, M, _, hr, sl, h, fun v H1 d M1 h1 g1 hr1 r1 => ?_⟩
  obtain ⟨i, rfl, h1⟩ := isI_inv h1
  cases r1
  exact ⟨_, rfl, L _ _ _ h1 g1 hr1⟩
variable {lo hi : Option Expr} {tl th : S3 → Mp → (Option Int → Mp → Prop) → Prop} {p2 : Pos}
theorem le_sl (ha : PE X a (lift X.K ta)) (hl : PO X lo (liftO X.K tl)) (hh : PO X hi (liftO X.K th)) : PE X (.Subscript a (.Slice lo hi none p2) pos) (lift X.K fun τ M Q => ta τ M fun d M1 => tl τ M1 fun l M2 => th τ M2 fun h M3 => sl3 d l h M3 Q) :=
  PEw (pe_slice sl_ok ha hl hh) fun σ H Q h => by
    obtain ⟨τ, M, Q3, hr, sl, h, L⟩ := h
    exact ⟨τ, M, _, hr, sl, h, fun v H1 d M1 h1 g1 hr1 r1 => ⟨τ, M1, _, hr1, sl.mono g1, h1, fun l H2 M2 h2 g2 hr2 => ⟨τ, M2, _, hr2, sl.mono (g1.trans g2), h2, fun u H3 M3 h3 g3 hr3 =>
      ⟨d, M3, Q3, hr3, Rep.mono (g2.trans g3) d r1, h3, L.from ((g1.trans g2).trans g3)⟩⟩⟩⟩
theorem le_rev {k : Nat} {p1 p3 : Pos} (ha : PE X a (lift X.K ta)) : PE X (.Subscript a (.Slice none none (some (.UnaryOp .USub (.Constant (.int 1) k p1) p2)) p3) pos) (lift X.K fun τ M Q => ta τ M fun d M1 => rev3 d M1 Q) :=
  PEw (pe_revL ha) fun σ H Q h => by
    obtain ⟨τ, M, Q3, hr, sl, h, L⟩ := h
    refine ⟨τ, M, _, hr, sl, h, fun v H1 d M1 h1 g1 hr1 r1 => ?_⟩
    cases r1 with
    | cl s q => exact ⟨_, _, rfl, s.l, newL_ok hr1 q.reverse h1 (L.from g1)⟩
    | ref p =>
      unfold rev3 at h1
      dsimp only at h1
      split at h1
      · rename_i l e
        obtain ⟨xs, hx, q⟩ := hr1.list (getL_some e)
        exact ⟨_, _, rfl, SqL.of hx, newL_ok hr1 q.reverse h1 (L.from g1)⟩
      · exact h1.elim
    | _ => exact h1.elim
/-! calls -/
variable {x : Str} {p : Pos}
def liftSp (K : PySem.W.Frag) (sp : Sp3) : Sp := fun vs H Q _ => ∃ ds M Q3, HR K M H ∧ Reps K H vs ds ∧ sp ds M Q3 ∧ Lnk K H Q3 Q
/-- a def of the module that keeps its promise -/
def Good (X : Cx) (x : String) (sp : Sp3) : Prop := ∃ f fd ps k, FnOk X.prog X.w X.K X.mg X.base CX0 k f fd ps (liftSp X.K sp) ∧ Room k X.A ∧ X.mg (Str.ofString x) = some (.ref f) ∧ PySem.W.keepIn X.K (.ref f) = true ∧ Binds X.K fd ps []
theorem le_call {x : String} {sp : Sp3} (g : Good X x sp) (hg : Gl X (Str.ofString x)) (ha : PA X (e :: es) (liftA X.K n tr)) (hdb : (Str.ofString x == ("__debug__" : Str)) = false)
    (he : starEach (e :: es) X.env = (false, eval e X.env) :: starEach es X.env) (hpl : (backTo pos (starEach es X.env)).any (·.1) = false) :
    PE X (.Call (.Name (Str.ofString x) p) (e :: es) [] pos) (lift X.K fun τ M Q => tr τ M fun ds M1 => sp ds M1 Q) := by
  obtain ⟨f, fd, ps, k, F, hr, hm, hk, hb⟩ := g
  refine PEw (pe_call F hr hg hm hk hb .nil pass0 ha hdb he hpl) fun σ H Q h => ?_
  obtain ⟨τ, M, Q3, hr, sl, h, L⟩ := h
  exact ⟨τ, M, _, hr, sl, h, fun vs H1 ds M1 h1 g1 hr1 r1 _ => ⟨ds, M1, Q3, hr1, by rw [List.append_nil]; exact r1, h1, L.from g1⟩⟩
theorem le_call0 {x : String} {sp : Sp3} (g : Good X x sp) (hg : Gl X (Str.ofString x)) (hdb : (Str.ofString x == ("__debug__" : Str)) = false) :
    PE X (.Call (.Name (Str.ofString x) p) [] [] pos) (lift X.K fun τ M Q => sp [] M Q) := by
  obtain ⟨f, fd, ps, k, F, hr, hm, hk, hb⟩ := g
  refine PEw (pe_call0 F hr hg hm hk hb .nil pass0 hdb) fun σ H Q h => ?_
  obtain ⟨τ, M, Q3, hr, sl, h, L⟩ := h
  exact ⟨[], M, Q3, hr, .nil, h, L⟩
theorem tCB_of {r : List D → Mp → K3 → Prop} {σ : L2.St} {H : Hp} {Q : VK} (h : lift X.K (fun τ M Q => tr τ M fun ds M1 => r ds M1 Q) σ H Q) : tCB (liftC X.K r) (liftA X.K n tr) σ H Q := by
  obtain ⟨τ, M, Q3, hr, sl, h, L⟩ := h
  exact ⟨τ, M, _, hr, sl, h, fun vs H1 ds M1 h1 g1 hr1 r1 _ => ⟨ds, M1, Q3, hr1, r1, h1, L.from g1⟩⟩
theorem le_bi {x : Str} {id : String} {r : List D → Mp → K3 → Prop} (hc : CallR X (.builtin id) (liftC X.K r)) (hg : Gl X x) (hm : X.mg x = none) (hv : bootBuiltins x = some (.builtin id)) (ha : PA X (e :: es) (liftA X.K n tr))
    (hn : x ≠ "__name__") (hdb : (x == ("__debug__" : Str)) = false) (he : starEach (e :: es) X.env = (false, eval e X.env) :: starEach es X.env) (hpl : (backTo pos (starEach es X.env)).any (·.1) = false) :
    PE X (.Call (.Name x p) (e :: es) [] pos) (lift X.K fun τ M Q => tr τ M fun ds M1 => r ds M1 Q) := PEw (pe_callB hc hg hm hv ha hn hdb he hpl) fun σ H Q h => tCB_of h
theorem le_biT {x : Str} {id : String} {r : List D → Mp → K3 → Prop} (hc : CallR X (.type id) (liftC X.K r)) (hg : Gl X x) (hm : X.mg x = none) (hv : bootBuiltins x = some (.type id)) (ha : PA X (e :: es) (liftA X.K n tr))
    (hn : x ≠ "__name__") (hdb : (x == ("__debug__" : Str)) = false) (he : starEach (e :: es) X.env = (false, eval e X.env) :: starEach es X.env) (hpl : (backTo pos (starEach es X.env)).any (·.1) = false) :
    PE X (.Call (.Name x p) (e :: es) [] pos) (lift X.K fun τ M Q => tr τ M fun ds M1 => r ds M1 Q) := PEw (pe_callTy hc hg hm hv ha hn hdb he hpl) fun σ H Q h => tCB_of h
theorem le_biF {x : Str} {id : String} {r : List D → Mp → K3 → Prop} (hc : CallR X (.builtin id) (liftC X.K r)) (hg : Gl X x) (hm : X.mg x = some (.builtin id)) (ha : PA X (e :: es) (liftA X.K n tr))
    (hdb : (x == ("__debug__" : Str)) = false) (he : starEach (e :: es) X.env = (false, eval e X.env) :: starEach es X.env) (hpl : (backTo pos (starEach es X.env)).any (·.1) = false) :
    PE X (.Call (.Name x p) (e :: es) [] pos) (lift X.K fun τ M Q => tr τ M fun ds M1 => r ds M1 Q) := PEw (pe_callBfun hc hg hm ha hdb he hpl) fun σ H Q h => tCB_of h
end
end G3
set_option Elab.async false
set_option linter.all false
set_option maxRecDepth 100000
set_option maxHeartbeats 4000000
namespace G3
open PySem PySem.Spec PyProof.Rows L2
section
variable {X : Cx}
/-! ### methods -/
def Me.id : Me → String
  | .append => "list.append" | .extend => "list.extend" | .pop => "list.pop" | .popAt => "list.pop" | .reverse => "list.reverse" | .insert => "list.insert" | .index => "list.index" | .get1 => "dict.get" | .get2 => "dict.get"
def Me.nm : Me → Str
  | .append => "append" | .extend => "extend" | .pop => "pop" | .popAt => "pop" | .reverse => "reverse" | .insert => "insert" | .index => "index" | .get1 => "get" | .get2 => "get"
theorem seqIx {n : Nat} {i : Int} {k : Nat} (h : ixN n i = some k) (hn : n ≤ sizeLine) : seqIndex? i n = some k ∧ -(2 ^ 63) ≤ i ∧ i < 2 ^ 63 ∧ k < n := by
  obtain ⟨h1, h2, h3, h4⟩ := ixN_seq h
  have hl := line63
  exact ⟨h1, by omega, by omega, h2⟩
theorem lenLine {pins : List (Addr × Obj)} {σ : L2.St} {H : Hp} {s : Shared} {p : Addr} {xs : List V} (I : L2.Inv X pins σ H s) (h : H p = some (.lst xs)) : xs.length ≤ sizeLine := (I.list (SqL.of h)).elim fun _ q => q.2.2
theorem me_ok (hu : X.A.units + 64 < cLine) : ∀ m : Me, MtR X m.id (liftM X.K (me3 m)) := by
  intro m pins s σ H x xs v us Q I rx rs h
  obtain ⟨d, ds, M, Q3, hr, r1, rr, hh, L⟩ := h
  cases m with
  | append =>
    obtain ⟨y, rfl, h⟩ := one_inv hh
    obtain ⟨p, l, rfl, e, hz, q⟩ := refL_inv h
    obtain ⟨w, rfl, rw'⟩ := Reps1 rr
    obtain ⟨ys, hy, q1⟩ := hr.list e
    cases r1
    exact mt_append pins s σ H _ _ v us Q I rx rs ⟨_, _, _, rfl, rfl, hy, by rw [q1.length]; exact hz, L _ _ _ _ q (.lst hy) (hr.putL (.lst hy) (q1.snoc rw')) .non⟩
  | extend =>
    obtain ⟨y, rfl, h⟩ := one_inv hh
    obtain ⟨p, l, rfl, e, h⟩ := refL_inv h
    obtain ⟨b, m, rfl, e2, hz, q⟩ := refL_inv h
    obtain ⟨w, rfl, rw'⟩ := Reps1 rr
    obtain ⟨ys, hy, q1⟩ := hr.list e
    obtain ⟨zs, hz', q2⟩ := hr.list e2
    cases r1; cases rw'
    exact mt_extend pins s σ H _ _ v us Q I rx rs ⟨_, _, _, _, rfl, rfl, hy, hz', by rw [q1.length, q2.length]; exact hz, L _ _ _ _ q (.lst hy) (hr.putL (.lst hy) (q1.append q2)) .non⟩
  | pop =>
    obtain ⟨rfl, h⟩ := hh
    obtain ⟨p, l, rfl, e, h⟩ := refL_inv h
    obtain ⟨y, ey, q⟩ := some3_inv h
    obtain ⟨ys, hy, q1⟩ := hr.list e
    obtain ⟨w, hw, rw'⟩ := q1.get ey
    cases r1; cases rr
    exact mt_pop pins s σ H _ _ v us Q I rx rs ⟨_, _, _, rfl, rfl, hy, by rw [q1.length]; exact hw, L _ _ _ _ q (.lst hy) (hr.putL (.lst hy) q1.dropLast) (Rep.mono (.lst hy) _ rw')⟩
  | popAt =>
    obtain ⟨y, rfl, h⟩ := one_inv hh
    obtain ⟨i, rfl, h⟩ := isI_inv h
    obtain ⟨p, l, rfl, e, h⟩ := refL_inv h
    obtain ⟨k, ek, h⟩ := some3_inv h
    obtain ⟨z, ez, q⟩ := some3_inv h
    obtain ⟨w, rfl, rw'⟩ := Reps1 rr
    obtain ⟨ys, hy, q1⟩ := hr.list e
    obtain ⟨w2, hw2, rw2⟩ := q1.get ez
    cases r1; cases rw'
    obtain ⟨g1, g2, g3, g4⟩ := seqIx (n := ys.length) (by rw [q1.length]; exact ek) (lenLine I hy)
    exact mt_popAt pins s σ H _ _ v us Q I rx rs ⟨_, _, _, _, _, rfl, rfl, hy, g2, g3, g1, hw2, L _ _ _ _ q (.lst hy) (hr.putL (.lst hy) (q1.erase k)) (Rep.mono (.lst hy) _ rw2)⟩
  | reverse =>
    obtain ⟨rfl, h⟩ := hh
    obtain ⟨p, l, rfl, e, q⟩ := refL_inv h
    obtain ⟨ys, hy, q1⟩ := hr.list e
    cases r1; cases rr
    exact mt_reverse pins s σ H _ _ v us Q I rx rs ⟨_, _, rfl, rfl, hy, L _ _ _ _ q (.lst hy) (hr.putL (.lst hy) q1.reverse) .non⟩
  | insert =>
    obtain ⟨x1, y, rfl, h⟩ := two_inv hh
    obtain ⟨i, rfl, h⟩ := isI_inv h
    obtain ⟨p, l, rfl, e, hz, h0, h1, q⟩ := refL_inv h
    obtain ⟨w, w2, rfl, rw1, rw2⟩ := Reps2 rr
    obtain ⟨ys, hy, q1⟩ := hr.list e
    cases r1; cases rw1
    exact mt_insert pins s σ H _ _ v us Q I rx rs ⟨_, _, _, _, rfl, rfl, hy, by rw [q1.length]; exact hz, h0, h1, L _ _ _ _ q (.lst hy) (hr.putL (.lst hy) (((q1.take _).snoc rw2).append (q1.drop _))) .non⟩
  | index =>
    obtain ⟨y, rfl, h⟩ := one_inv hh
    obtain ⟨l, el, f1, f2, j, z, ez, e1, e2, q⟩ := some3_inv h
    obtain ⟨w, rfl, rw'⟩ := Reps1 rr
    obtain ⟨a, ys, rfl, hs, q1⟩ := listAt_ok hr r1 el
    obtain ⟨w2, hw2, rw2⟩ := q1.get ez
    have fz : flatD z = true := List.all_eq_true.mp f2 z (List.mem_of_getElem? ez)
    refine mt_index pins s σ H _ _ v us Q I rx rs ⟨_, _, _, j, w2, rfl, rfl, hs, flat_ok rw' f1, flats_ok q1 f2, hw2, by rw [eqF_ok rw2 rw' fz f1]; exact e1, fun m z' hm hz => ?_, L.here hr (.int _) q⟩
    obtain ⟨d', hd', rd'⟩ := q1.get' hz
    rw [eqF_ok rd' rw' (List.all_eq_true.mp f2 d' (List.mem_of_getElem? hd')) f1]
    exact e2 m d' hm hd'
  | get1 =>
    obtain ⟨y, rfl, h⟩ := one_inv hh
    obtain ⟨k, ek, h⟩ := some3_inv h
    obtain ⟨p, l, rfl, e, q⟩ := refD_inv h
    obtain ⟨w, rfl, rw'⟩ := Reps1 rr
    obtain ⟨ys, hy, q1⟩ := hr.dic e
    have e2 := keyD_ok rw' ek
    subst e2
    cases r1
    obtain rfl : v = Value.ref p := rx
    obtain ⟨u, rfl, ru⟩ := vals1 rs
    refine d_get1 (by omega) I (DGet.k hy) ru fun w' s3 I3 rw3 => ⟨_, H, I3, rw3, ?_⟩
    rcases getK_ok (k := k) q1 with ⟨z1, z2⟩ | ⟨w, d', z1, z2, rd⟩
    · rw [z2] at q; rw [z1]; exact L.here hr .non q
    · rw [z2] at q; rw [z1]; exact L.here hr rd q
  | get2 =>
    obtain ⟨y, y2, rfl, h⟩ := two_inv hh
    obtain ⟨k, ek, h⟩ := some3_inv h
    obtain ⟨p, l, rfl, e, q⟩ := refD_inv h
    obtain ⟨w, w2, rfl, rw1, rw2⟩ := Reps2 rr
    obtain ⟨ys, hy, q1⟩ := hr.dic e
    have e2 := keyD_ok rw1 ek
    subst e2
    cases r1
    obtain rfl : v = Value.ref p := rx
    obtain ⟨u, u2, rfl, ru, ru2⟩ := vals2 rs
    refine d_get2 (by omega) I (DGet.k hy) ru ru2 fun w' s3 I3 rw3 => ⟨_, H, I3, rw3, ?_⟩
    rcases getK_ok (k := k) q1 with ⟨z1, z2⟩ | ⟨w, d', z1, z2, rd⟩
    · rw [z2] at q; rw [z1]; exact L.here hr rw2 q
    · rw [z2] at q; rw [z1]; exact L.here hr rd q
theorem isTyM_ok {H : Hp} {M : Mp} {T : String} {d : D} {v : V} (hr : HR X.K M H) (r : Rep X.K H v d) (h : isTyM T d M) : tyV X.K T v H := by
  unfold isTyM at h
  cases r with
  | ref p =>
    dsimp only at h
    split at h
    · rename_i l e
      obtain ⟨xs, hx, _⟩ := hr.list e
      exact .inl ⟨h, _, SqL.of hx⟩
    · rename_i l e
      obtain ⟨xs, hx, _⟩ := hr.dic e
      exact .inr (.inr (.inl ⟨h, .inl ⟨_, hx⟩⟩))
    · exact h.elim
  | cl s q => exact .inl ⟨h, _, s.l⟩
  | _ => exact h.elim
variable {a b c e o : Expr} {ta tb tc te to : TE3} {pos apos : Pos} {es : List Expr} {tr : TA3} {n : Nat}
theorem le_me {T id : String} {name : Str} {r : D → List D → Mp → K3 → Prop} (pa : PlainAttrs T) (slot : PySem.Slot T name id) (hty : typeOf (.builtin id) = pure (.type "method_descriptor")) (hm : MtR X id (liftM X.K r)) (ho : PE X o (lift X.K to)) (ha : PA X (e :: es) (liftA X.K n tr))
    (hbase : attributeBase o name X.env (eval o X.env) = eval o X.env)
    (hfew : ((backTo pos (starEach (e :: es) X.env)).all (fun x => !x.1) && (backToKw pos (keywordEach [] X.env)).all (fun x => x.1.isSome)
      && decide ((e :: es).length + ([] : List Keyword).length + (if ([] : List Keyword).isEmpty then 0 else 1) < 30)) = true)
    (hline : (apos.endLine == pos.line) = true) (hs : starEach (e :: es) X.env = (false, eval e X.env) :: starEach es X.env) (hplain : (backTo pos (starEach es X.env)).any (·.1) = false) :
    PE X (.Call (.Attribute o name apos) (e :: es) [] pos) (lift X.K fun τ M Q => to τ M fun d M1 => isTyM T d M1 ∧ tr τ M1 fun ds M2 => r d ds M2 Q) :=
  PEw (pe_bm pa slot hty hm ho ha hbase hfew hline hs hplain) fun σ H Q h => by
    obtain ⟨τ, M, Q3, hr, sl, h, L⟩ := h
    exact ⟨τ, M, _, hr, sl, h, fun v H1 d M1 h1 g1 hr1 r1 => ⟨isTyM_ok hr1 r1 h1.1, τ, M1, _, hr1, sl.mono g1, h1.2, fun vs H2 ds M2 h2 g2 hr2 r2 _ =>
      ⟨d, ds, M2, Q3, hr2, Rep.mono g2 d r1, r2, h2, L.from (g1.trans g2)⟩⟩⟩
theorem le_me0 {T id : String} {name : Str} {r : D → List D → Mp → K3 → Prop} (pa : PlainAttrs T) (slot : PySem.Slot T name id) (hty : typeOf (.builtin id) = pure (.type "method_descriptor")) (hm : MtR X id (liftM X.K r)) (ho : PE X o (lift X.K to))
    (hbase : attributeBase o name X.env (eval o X.env) = eval o X.env) (hline : (apos.endLine == pos.line) = true) :
    PE X (.Call (.Attribute o name apos) [] [] pos) (lift X.K fun τ M Q => to τ M fun d M1 => isTyM T d M1 ∧ r d [] M1 Q) :=
  PEw (pe_bm0 pa slot hty hm ho hbase hline) fun σ H Q h => by
    obtain ⟨τ, M, Q3, hr, sl, h, L⟩ := h
    exact ⟨τ, M, _, hr, sl, h, fun v H1 d M1 h1 g1 hr1 r1 => ⟨isTyM_ok hr1 r1 h1.1, d, [], M1, Q3, hr1, r1, .nil, h1.2, L.from g1⟩⟩
/-! isinstance -/
theorem isi1_ok {t : String} (ht : t ∈ askTy) : CallR X (.builtin "isinstance") (liftC X.K fun ds M Q => two ds fun d e => e = .ty t ∧ some3 (tyName d M) fun y => Q (.bl ([t].any fun T => isTy y T)) M) := by
  intro pins s σ H xs us Q I rx h
  obtain ⟨ds, M, Q3, hr, rs, hh, L⟩ := h
  obtain ⟨d, e, rfl, rfl, h⟩ := two_inv hh
  obtain ⟨v, w, rfl, r1, r2⟩ := Reps2 rs
  obtain ⟨y, ey, q⟩ := some3_inv h
  cases r2
  refine call_isi pins s σ H _ us Q I rx ⟨_, _, _, _, isTy y t, rfl, .ty t, tyX_ok hr r1 ey, kit_ty (kit_all y (tyName_in ey) t ht), L.here hr (.bl _) ?_⟩
  simpa using q
theorem le_isi1 {t : String} {x y : Str} {p p1 : Pos} (ht : t ∈ askTy) (hx : x = Str.ofString "isinstance") (hy : y = Str.ofString t) (ha : PE X a (lift X.K ta)) (hg : Gl X x) (hm : X.mg x = none) (hgy : Gl X y) (hmy : X.mg y = none)
    (hv : bootBuiltins x = some (.builtin "isinstance")) (hvy : bootBuiltins y = some (.type t)) (hn : x ≠ "__name__") (hdb : (x == ("__debug__" : Str)) = false) (hny : y ≠ "__name__") (hdby : (y == ("__debug__" : Str)) = false)
    (he : starEach [a, .Name y p1] X.env = (false, eval a X.env) :: starEach [.Name y p1] X.env) :
    PE X (.Call (.Name x p) [a, .Name y p1] [] pos) (lift X.K fun τ M Q => ta τ M fun d M1 => some3 (tyName d M1) fun z => Q (.bl ([t].any fun T => isTy z T)) M1) := by
  have hty : PE X (.Name y p1) (lift X.K fun τ M Q => Q (.ty t) M) := PEw (pe_bltn hgy hmy hvy (v := .ty t) rfl hny hdby) fun σ H Q h => by
    obtain ⟨τ, M, Q3, hr, sl, h, L⟩ := h
    exact L.here hr (.ty t) h
  refine PEw (le_bi (r := fun ds M Q => two ds fun d e => e = .ty t ∧ some3 (tyName d M) fun y => Q (.bl ([t].any fun T => isTy y T)) M) (isi1_ok ht) hg hm hv (la_cons ha (la_cons hty la_nil rfl) he) hn hdb he rfl) fun σ H Q h => ?_
  obtain ⟨τ, M, Q3, hr, sl, h, L⟩ := h
  exact ⟨τ, M, Q3, hr, sl, (show ta τ M _ from by simpa [two] using h), L⟩
end
end G3
set_option Elab.async false
set_option linter.all false
set_option maxRecDepth 100000
set_option maxHeartbeats 4000000
/-! walks, comprehensions, statements over values by content -/
namespace G3
open PySem PySem.Spec PyProof.Rows L2
section
variable {X : Cx} {a b c e : Expr} {ta tb tc te : TE3} {pos apos : Pos} {es : List Expr} {tr : TA3} {n : Nat}
/-! ### what is walked -/
theorem SqL.uniq {K : PySem.W.Frag} {H : Hp} {a : Addr} {xs : List V} (h : H a = some (.lst xs)) {ys : List V} (q : SqL K H a ys) (nk : K.lookup a = none) : xs = ys := by
  rcases q with (q | ⟨o, q⟩) | ⟨o, its, n, hk, _⟩
  · rw [h] at q; cases q; rfl
  · rw [h] at q; cases q
  · rw [nk] at hk; cases hk
theorem itL_ok {K : PySem.W.Frag} {H0 : Hp} {p : Addr} {l : List D} : ItOk K H0 (Itl K p) l fun M => M p = some (.lst l) := by
  refine ⟨fun i H M d g hr k e => ?_, fun i H M g hr k hl => ?_⟩
  · obtain ⟨xs, hx, q⟩ := hr.list k
    obtain ⟨v, hv, r⟩ := q.get e
    refine ⟨⟨xs, v, SqL.of hx, hv⟩, fun x H' y => ?_⟩
    obtain ⟨rfl, y⟩ := y
    have := y xs (SqL.of hx)
    rw [hv] at this
    cases this
    exact ⟨.refl, hr, r⟩
  · obtain ⟨xs, hx, q⟩ := hr.list k
    exact ⟨xs, SqL.of hx, by rw [q.length]; exact hl⟩
theorem itC_ok {K : PySem.W.Frag} {H0 : Hp} {p : Addr} {xs : List V} {l : List D} (s : SqC K H0 p xs) (q : Reps K H0 xs l) : ItOk K H0 (Itl K p) l fun _ => True := by
  refine ⟨fun i H M d g hr k e => ?_, fun i H M g hr k hl => ?_⟩
  · obtain ⟨v, hv, r⟩ := q.get e
    refine ⟨⟨xs, v, (g.cl _ _ s).l, hv⟩, fun x H' y => ?_⟩
    obtain ⟨rfl, y⟩ := y
    have := y xs (g.cl _ _ s).l
    rw [hv] at this
    cases this
    exact ⟨.refl, hr, Rep.mono g _ r⟩
  · exact ⟨xs, (g.cl _ _ s).l, by rw [q.length]; exact hl⟩
theorem itT_ok {K : PySem.W.Frag} {H0 : Hp} {p : Addr} {xs : List V} {l : List D} (s : SqT K H0 p xs) (q : Reps K H0 xs l) : ItOk K H0 (Itt K p) l fun _ => True := by
  refine ⟨fun i H M d g hr k e => ?_, fun i H M g hr k hl => ?_⟩
  · obtain ⟨v, hv, r⟩ := q.get e
    refine ⟨⟨xs, v, g.tup _ _ s, hv⟩, fun x H' y => ?_⟩
    obtain ⟨rfl, y⟩ := y
    have := y xs (g.tup _ _ s)
    rw [hv] at this
    cases this
    exact ⟨.refl, hr, Rep.mono g _ r⟩
  · exact ⟨xs, g.tup _ _ s, by rw [q.length]; exact hl⟩
theorem rgD_get {i c : Int} {n k : Nat} {d : D} (h : (rgD i c n)[k]? = some d) : k < n ∧ d = .int (i + (k : Nat) * c) := by
  unfold rgD at h
  rw [List.getElem?_map] at h
  cases e : (List.range n)[k]? with
  | none => rw [e] at h; cases h
  | some j =>
    rw [e] at h
    obtain ⟨h1, h2⟩ := List.getElem?_eq_some_iff.mp e
    rw [List.length_range] at h1
    rw [List.getElem_range] at h2
    subst h2
    cases h
    exact ⟨h1, rfl⟩
theorem rgD_length {i c : Int} {n : Nat} : (rgD i c n).length = n := by unfold rgD; rw [List.length_map, List.length_range]
theorem itR_ok {K : PySem.W.Frag} {H0 : Hp} {lo : Int} {n : Nat} : ItOk K H0 (Itr lo n) (rgD lo 1 n) fun _ => True := by
  refine ⟨fun i H M d g hr k e => ?_, fun i H M g hr k hl => ?_⟩
  · obtain ⟨h1, rfl⟩ := rgD_get e
    refine ⟨h1, fun x H' y => ?_⟩
    obtain ⟨rfl, rfl⟩ := y
    refine ⟨.refl, hr, ?_⟩
    rw [Int.mul_one]
    exact .int _
  · rw [rgD_length] at hl; exact hl
theorem itRc_ok {K : PySem.W.Frag} {H0 : Hp} {lo c : Int} {n : Nat} : ItOk K H0 (Itc lo c n) (rgD lo c n) fun _ => True := by
  refine ⟨fun i H M d g hr k e => ?_, fun i H M g hr k hl => ?_⟩
  · obtain ⟨h1, rfl⟩ := rgD_get e
    refine ⟨h1, fun x H' y => ?_⟩
    obtain ⟨rfl, rfl⟩ := y
    exact ⟨.refl, hr, .int _⟩
  · rw [rgD_length] at hl; exact hl
theorem new_tup {K : PySem.W.Frag} {H : Hp} {M : Mp} {T : Addr} {xs : List V} {ds : List D} (hr : HR K M H) (n : H T = none) (r : Reps K H xs ds) :
    Grow K H (upd H T (.tup xs)) ∧ HR K M (upd H T (.tup xs)) ∧ Rep K (upd H T (.tup xs)) (.ref T) (.tup ds) :=
  ⟨.new n, hr.upd (.new n) (hr.none n), .tup (SqT.of upd_same) (r.mono (.new n))⟩
theorem enumD_get {l : List D} {i : Nat} {d : D} (h : (enumD l)[i]? = some d) : ∃ x, l[i]? = some x ∧ d = .tup [.int (i : Nat), x] := by
  unfold enumD at h
  rw [List.getElem?_mapIdx] at h
  cases e : l[i]? with
  | none => rw [e] at h; cases h
  | some x => rw [e] at h; cases h; exact ⟨x, rfl, rfl⟩
theorem enumD_length {l : List D} : (enumD l).length = l.length := by unfold enumD; rw [List.length_mapIdx]
theorem itE_ok {K : PySem.W.Frag} {H0 : Hp} {p : Addr} {l : List D} {keep : Mp → Prop} (hk : ∀ H M, Grow K H0 H → HR K M H → keep M → ∃ xs, SqL K H p xs ∧ Reps K H xs l) : ItOk K H0 (Ite K p) (enumD l) keep := by
  refine ⟨fun i H M d g hr k e => ?_, fun i H M g hr k hl => ?_⟩
  · obtain ⟨xs, s, q⟩ := hk H M g hr k
    obtain ⟨x, hx, rfl⟩ := enumD_get e
    obtain ⟨v, hv, r⟩ := q.get hx
    refine ⟨⟨xs, v, s, hv⟩, fun y H' z => ?_⟩
    obtain ⟨T, w, rfl, n, rfl, f⟩ := z
    have := f xs s
    rw [hv] at this
    cases this
    exact new_tup hr n (.cons (.int _) (.cons r .nil))
  · obtain ⟨xs, s, q⟩ := hk H M g hr k
    rw [enumD_length] at hl
    exact ⟨xs, s, by rw [q.length]; exact hl⟩
theorem zipD_get {l m : List D} {i : Nat} {d : D} (h : (zipD l m)[i]? = some d) : ∃ x y, l[i]? = some x ∧ m[i]? = some y ∧ d = .tup [x, y] := by
  unfold zipD at h
  rw [List.getElem?_map] at h
  cases e : (l.zip m)[i]? with
  | none => rw [e] at h; cases h
  | some z =>
    rw [e] at h
    cases h
    obtain ⟨x, y⟩ := z
    obtain ⟨h1, h2⟩ := List.getElem?_zip_eq_some.mp e
    exact ⟨x, y, h1, h2, rfl⟩
theorem zipD_length {l m : List D} : (zipD l m).length = min l.length m.length := by unfold zipD; rw [List.length_map, List.length_zip]
theorem itZ_ok {K : PySem.W.Frag} {H0 : Hp} {p p' : Addr} {l m : List D} {keep : Mp → Prop} (hk : ∀ H M, Grow K H0 H → HR K M H → keep M → ∃ xs ys, SqL K H p xs ∧ Reps K H xs l ∧ SqL K H p' ys ∧ Reps K H ys m) : ItOk K H0 (Itz K p p') (zipD l m) keep := by
  refine ⟨fun i H M d g hr k e => ?_, fun i H M g hr k hl => ?_⟩
  · obtain ⟨xs, ys, s, q, s', q'⟩ := hk H M g hr k
    obtain ⟨x, y, hx, hy, rfl⟩ := zipD_get e
    obtain ⟨v, hv, r⟩ := q.get hx
    obtain ⟨v', hv', r'⟩ := q'.get hy
    refine ⟨⟨xs, ys, v, v', s, s', hv, hv'⟩, fun z H' zz => ?_⟩
    obtain ⟨T, w, w', rfl, n, rfl, f, f'⟩ := zz
    have e1 := f xs s
    have e2 := f' ys s'
    rw [hv] at e1
    rw [hv'] at e2
    cases e1; cases e2
    exact new_tup hr n (.cons r (.cons r' .nil))
  · obtain ⟨xs, ys, s, q, s', q'⟩ := hk H M g hr k
    rw [zipD_length] at hl
    exact ⟨xs, ys, s, s', by rw [q.length, q'.length]; omega⟩
theorem itZT_ok {K : PySem.W.Frag} {H0 : Hp} {p p' : Addr} {l m : List D} {xs ys : List V} (s : SqT K H0 p xs) (q : Reps K H0 xs l) (s' : SqT K H0 p' ys) (q' : Reps K H0 ys m) : ItOk K H0 (RZ.ItzT K p p') (zipD l m) fun _ => True := by
  refine ⟨fun i H M d g hr k e => ?_, fun i H M g hr k hl => ?_⟩
  · obtain ⟨x, y, hx, hy, rfl⟩ := zipD_get e
    obtain ⟨v, hv, r⟩ := q.get hx
    obtain ⟨v', hv', r'⟩ := q'.get hy
    refine ⟨⟨xs, ys, v, v', g.tup _ _ s, g.tup _ _ s', hv, hv'⟩, fun z H' zz => ?_⟩
    obtain ⟨T, w, w', rfl, n, rfl, f, f'⟩ := zz
    have e1 := f xs (g.tup _ _ s)
    have e2 := f' ys (g.tup _ _ s')
    rw [hv] at e1
    rw [hv'] at e2
    cases e1; cases e2
    exact new_tup hr n (.cons (Rep.mono g _ r) (.cons (Rep.mono g _ r') .nil))
  · rw [zipD_length] at hl
    exact ⟨xs, ys, g.tup _ _ s, g.tup _ _ s', by rw [q.length, q'.length]; omega⟩
/-- a list or a tuple -/
def iSeq (K : PySem.W.Frag) (tl : TE) : TI := fun σ H R => tl σ H fun x H1 => ∃ a, x = .ref a ∧ (((∃ xs, SqL K H1 a xs) ∧ R (Itl K a) H1) ∨ ((∃ xs, SqT K H1 a xs) ∧ R (Itt K a) H1))
theorem pi_seq {tg l : Expr} {tl : TE} (hl : PE X l tl) : PI X tg l (iSeq X.K tl) := by
  refine ⟨fun pins s σ H R I h => ?_⟩
  refine thn (hl.run pins s σ H _ I h) fun v s1 ⟨x, H1, I1, r1, q1⟩ => ?_
  obtain ⟨a, rfl, q⟩ := q1
  cases r1
  rcases q with ⟨⟨xs, hq⟩, q⟩ | ⟨⟨xs, hq⟩, q⟩
  · obtain ⟨its, rv, p, hz⟩ := I1.list hq
    refine wpAny_pyIter_list p.isList ⟨s1.heap.objs.size, [s1.heap.objs.size], _, _, H1, rfl, I1.kept (t' := s1.toks) fun b o e => Heap.get?_push_of_some _ e, turn_list a _, ⟨_, Heap.get?_push_size _ rfl, rfl, rfl⟩, fun b hb => ?_, q⟩
    rw [List.mem_singleton] at hb
    subst hb
    exact I1.fpOk (Nat.le_refl _) (I1.hok.fresh (Nat.le_refl _))
  · obtain ⟨its, rv, p, hz⟩ := I1.tuple hq
    refine wpAny_pyIter_tuple (show s1.heap.IsTuple a its.toArray from p) ⟨s1.heap.objs.size, [s1.heap.objs.size], _, _, H1, rfl, I1.kept (t' := s1.toks) fun b o e => Heap.get?_push_of_some _ e, turn_tuple a _, ⟨_, Heap.get?_push_size _ rfl, rfl, rfl⟩, fun b hb => ?_, q⟩
    rw [List.mem_singleton] at hb
    subst hb
    exact I1.fpOk (Nat.le_refl _) (I1.hok.fresh (Nat.le_refl _))
theorem li_seq {tg : Expr} (ha : PE X a (lift X.K ta)) : PI X tg a (liftI X.K fun τ M R => ta τ M fun d M1 => seqI d M1 R) := PIw (pi_seq ha) fun σ H R h => by
  obtain ⟨τ, M, R3, hr, sl, h, L⟩ := h
  refine ⟨τ, M, _, hr, sl, h, fun v H1 d M1 h1 g1 hr1 r1 => ?_⟩
  unfold seqI at h1
  cases r1 with
  | tup s q => exact ⟨_, rfl, .inr ⟨⟨_, s⟩, L _ _ _ _ _ h1 g1 hr1 (itT_ok s q)⟩⟩
  | cl s q => exact ⟨_, rfl, .inl ⟨⟨_, s.l⟩, L _ _ _ _ _ h1 g1 hr1 (itC_ok s q)⟩⟩
  | ref p =>
    dsimp only at h1
    split at h1
    · rename_i l e
      obtain ⟨xs, hx, q⟩ := hr1.list e
      exact ⟨_, rfl, .inl ⟨⟨_, SqL.of hx⟩, L _ _ _ _ _ h1 g1 hr1 itL_ok⟩⟩
    · exact h1.elim
  | _ => exact h1.elim
variable {p : Pos} {tg : Expr}
theorem li_rng1 (ha : PE X a (lift X.K ta)) (hg : Gl X "range") (hm : X.mg "range" = none) (he : starEach [a] X.env = (false, eval a X.env) :: starEach [] X.env) :
    PI X tg (.Call (.Name "range" p) [a] [] pos) (liftI X.K fun τ M R => ta τ M fun d M1 => isI d fun j => -(2 ^ 62) ≤ j ∧ j < 2 ^ 62 ∧ R (rgD 0 1 j.toNat) (fun _ => True) M1) :=
  PIw (pi_range1 hg hm (la_cons ha la_nil he) he) fun σ H R h => by
    obtain ⟨τ, M, R3, hr, sl, h, L⟩ := h
    refine ⟨τ, M, fun ds M1 => one ds fun d => isI d fun j => -(2 ^ 62) ≤ j ∧ j < 2 ^ 62 ∧ R3 (rgD 0 1 j.toNat) (fun _ => True) M1, hr, sl, h, fun vs H1 ds M1 h1 g1 hr1 r1 _ => ?_⟩
    obtain ⟨d, rfl, h2⟩ := one_inv h1
    obtain ⟨v, rfl, r⟩ := Reps1 r1
    obtain ⟨j, rfl, h3, h4, h5⟩ := isI_inv h2
    cases r
    exact ⟨j, rfl, h3, h4, L _ _ _ _ _ h5 g1 hr1 itR_ok⟩
theorem li_rng2 (ha : PE X a (lift X.K ta)) (hb : PE X b (lift X.K tb)) (hg : Gl X "range") (hm : X.mg "range" = none) (he : starEach [a, b] X.env = (false, eval a X.env) :: starEach [b] X.env) (he2 : starEach [b] X.env = (false, eval b X.env) :: starEach [] X.env) :
    PI X tg (.Call (.Name "range" p) [a, b] [] pos) (liftI X.K fun τ M R => ta τ M fun d M1 => tb τ M1 fun e M2 => isI d fun i => isI e fun j => (-(2 ^ 62) ≤ i ∧ i < 2 ^ 62 ∧ -(2 ^ 62) ≤ j ∧ j < 2 ^ 62) ∧ R (rgD i 1 (j - i).toNat) (fun _ => True) M2) :=
  PIw (pi_range2 hg hm (la_cons ha (la_cons hb la_nil he2) he) (by rw [he, he2]; rfl) (by rw [he2]; rfl)) fun σ H R h => by
    obtain ⟨τ, M, R3, hr, sl, h, L⟩ := h
    refine ⟨τ, M, fun ds M2 => two ds fun d e => isI d fun i => isI e fun j => (-(2 ^ 62) ≤ i ∧ i < 2 ^ 62 ∧ -(2 ^ 62) ≤ j ∧ j < 2 ^ 62) ∧ R3 (rgD i 1 (j - i).toNat) (fun _ => True) M2, hr, sl, h, fun vs H1 ds M1 h1 g1 hr1 r1 _ => ?_⟩
    obtain ⟨d, e, rfl, h2⟩ := two_inv h1
    obtain ⟨v, w, rfl, r, r'⟩ := Reps2 r1
    obtain ⟨i, rfl, h3⟩ := isI_inv h2
    obtain ⟨j, rfl, h4, h5⟩ := isI_inv h3
    cases r; cases r'
    exact ⟨i, j, rfl, h4, L _ _ _ _ _ h5 g1 hr1 itR_ok⟩
def three (ds : List D) (f : D → D → D → Prop) : Prop := match ds with
  | [d, e, g] => f d e g
  | _ => False
theorem three_inv {ds : List D} {f : D → D → D → Prop} (h : three ds f) : ∃ d e g, ds = [d, e, g] ∧ f d e g := by
  unfold three at h
  split at h
  · exact ⟨_, _, _, rfl, h⟩
  · exact h.elim
theorem li_rng3 (ha : PE X a (lift X.K ta)) (hb : PE X b (lift X.K tb)) (hc : PE X c (lift X.K tc)) (hg : Gl X "range") (hm : X.mg "range" = none) (he : starEach [a, b, c] X.env = (false, eval a X.env) :: starEach [b, c] X.env) (he2 : starEach [b, c] X.env = (false, eval b X.env) :: starEach [c] X.env)
    (he3 : starEach [c] X.env = (false, eval c X.env) :: starEach [] X.env) :
    PI X tg (.Call (.Name "range" p) [a, b, c] [] pos) (liftI X.K fun τ M R => ta τ M fun d M1 => tb τ M1 fun e M2 => tc τ M2 fun f M3 => isI d fun i => isI e fun j => isI f fun k => ∃ n, RgC i j k n ∧ R (rgD i k n) (fun _ => True) M3) :=
  PIw (pi_range3 hg hm (la_cons ha (la_cons hb (la_cons hc la_nil he3) he2) he) (by first | exact he | (rw [he, he2, he3]; rfl)) (by first | exact he2 | rw [he2, he3]; rfl)) fun σ H R h => by
    obtain ⟨τ, M, R3, hr, sl, h, L⟩ := h
    refine ⟨τ, M, fun ds M3 => three ds fun d e f => isI d fun i => isI e fun j => isI f fun k => ∃ n, RgC i j k n ∧ R3 (rgD i k n) (fun _ => True) M3, hr, sl, h, fun vs H1 ds M1 h1 g1 hr1 r1 _ => ?_⟩
    obtain ⟨d, e, f, rfl, h2⟩ := three_inv h1
    cases r1 with
    | cons r rs =>
      obtain ⟨v, w, rfl, r', r''⟩ := Reps2 rs
      obtain ⟨i, rfl, h3⟩ := isI_inv h2
      obtain ⟨j, rfl, h4⟩ := isI_inv h3
      obtain ⟨k, rfl, n, h5, h6⟩ := isI_inv h4
      cases r; cases r'; cases r''
      exact ⟨i, j, k, n, rfl, h5, L _ _ _ _ _ h6 g1 hr1 itRc_ok⟩
theorem li_enum {elts : List Expr} {kk : Nat} {tpos : Pos} (ha : PE X a (lift X.K ta)) (hg : Gl X "enumerate") (hm : X.mg "enumerate" = none) (he : starEach [a] X.env = (false, eval a X.env) :: starEach [] X.env) :
    PI X (.Tuple elts kk tpos) (.Call (.Name "enumerate" p) [a] [] pos) (liftI X.K fun τ M R => ta τ M fun d M1 => enum3 d M1 R) :=
  PIw (pi_enum hg hm (la_cons ha la_nil he) he) fun σ H R h => by
    obtain ⟨τ, M, R3, hr, sl, h, L⟩ := h
    refine ⟨τ, M, fun ds M1 => one ds fun d => enum3 d M1 R3, hr, sl, h, fun vs H1 ds M1 h1 g1 hr1 r1 _ => ?_⟩
    obtain ⟨d, rfl, h2⟩ := one_inv h1
    obtain ⟨v, rfl, r⟩ := Reps1 r1
    unfold enum3 seqI at h2
    cases r with
    | cl s q => exact ⟨_, _, rfl, s.l, L _ _ _ _ _ h2 g1 hr1 (itE_ok fun H M g hr _ => ⟨_, (g.cl _ _ s).l, q.mono g⟩)⟩
    | ref p =>
      dsimp only at h2
      split at h2
      · rename_i l e
        obtain ⟨xs, hx, q⟩ := hr1.list e
        exact ⟨_, _, rfl, SqL.of hx, L _ _ _ _ _ h2 g1 hr1 (itE_ok fun H M g hr k => let ⟨ys, hy, q'⟩ := hr.list k; ⟨ys, SqL.of hy, q'⟩)⟩
      · exact h2.elim
    | _ => exact h2.elim
theorem seqI_list {K : PySem.W.Frag} {d : D} {v : V} {M : Mp} {H : Hp} {R : List D → (Mp → Prop) → Mp → Prop} (h : seqI d M R) (hr : HR K M H) (r : Rep K H v d) (nt : ∀ l, d ≠ .tup l) :
    ∃ a xs ds keep, v = .ref a ∧ SqL K H a xs ∧ Reps K H xs ds ∧ R ds keep M ∧ ∀ H' M', Grow K H H' → HR K M' H' → keep M' → ∃ ys, SqL K H' a ys ∧ Reps K H' ys ds := by
  unfold seqI at h
  cases r with
  | tup s q => exact absurd rfl (nt _)
  | cl s q => exact ⟨_, _, _, _, rfl, s.l, q, h, fun H' M' g _ _ => ⟨_, (g.cl _ _ s).l, q.mono g⟩⟩
  | ref p =>
    dsimp only at h
    split at h
    · rename_i l e
      obtain ⟨xs, hx, q⟩ := hr.list e
      exact ⟨_, _, _, _, rfl, SqL.of hx, q, h, fun H' M' g hr' k => let ⟨ys, hy, q'⟩ := hr'.list k; ⟨ys, SqL.of hy, q'⟩⟩
    · exact h.elim
  | _ => exact h.elim
theorem zip3_inv {d e : D} {M : Mp} {R : List D → (Mp → Prop) → Mp → Prop} (h : zip3 d e M R) :
    (∃ l m, d = .tup l ∧ e = .tup m ∧ R (zipD l m) (fun _ => True) M) ∨ ((∀ l, d ≠ .tup l) ∧ (∀ l, e ≠ .tup l) ∧ seqI d M fun ds keep M3 => seqI e M3 fun es keep' M4 => R (zipD ds es) (fun M => keep M ∧ keep' M) M4) := by
  cases d <;> cases e <;> first
    | exact .inl ⟨_, _, rfl, rfl, h⟩
    | exact False.elim h
    | exact .inr ⟨(by intro l q; cases q), (by intro l q; cases q), h⟩
theorem li_zip {elts : List Expr} {kk : Nat} {tpos : Pos} (ha : PE X a (lift X.K ta)) (hb : PE X b (lift X.K tb)) (hg : Gl X "zip") (hm : X.mg "zip" = none) (he : starEach [a, b] X.env = (false, eval a X.env) :: starEach [b] X.env) (he2 : starEach [b] X.env = (false, eval b X.env) :: starEach [] X.env)
    (hpl : (backTo pos (starEach [b] X.env)).any (·.1) = false) :
    PI X (.Tuple elts kk tpos) (.Call (.Name "zip" p) [a, b] [] pos) (liftI X.K fun τ M R => ta τ M fun d M1 => tb τ M1 fun e M2 => zip3 d e M2 R) :=
  PIw (RZ.pi_zipA hg hm (la_cons ha (la_cons hb la_nil he2) he) he hpl) fun σ H R h => by
    obtain ⟨τ, M, R3, hr, sl, h, L⟩ := h
    refine ⟨τ, M, fun ds M2 => two ds fun d e => zip3 d e M2 R3, hr, sl, h, fun vs H1 ds M1 h1 g1 hr1 r1 _ => ?_⟩
    obtain ⟨d, e, rfl, h2⟩ := two_inv h1
    obtain ⟨v, w, rfl, r, r'⟩ := Reps2 r1
    rcases zip3_inv h2 with ⟨l, m, rfl, rfl, h3⟩ | ⟨n1, n2, h3⟩
    · cases r with
      | tup s q =>
        cases r' with
        | tup s' q' => exact ⟨_, _, _, _, rfl, .inr ⟨s, s', L _ _ _ _ _ h3 g1 hr1 (itZT_ok s q s' q')⟩⟩
    · obtain ⟨a1, xs, ds, keep, rfl, s, q, h4, k1⟩ := seqI_list h3 hr1 r n1
      obtain ⟨b1, ys, es, keep', rfl, s', q', h5, k2⟩ := seqI_list h4 hr1 r' n2
      exact ⟨_, _, _, _, rfl, .inl ⟨s, s', L _ _ _ _ _ h5 g1 hr1 (itZ_ok fun H M g hr k => let ⟨us, u1, u2⟩ := k1 H M g hr k.1; let ⟨ws, w1, w2⟩ := k2 H M g hr k.2; ⟨us, ws, u1, u2, w1, w2⟩)⟩⟩
/-! ### targets -/
mutual
def gOf (K : PySem.W.Frag) : Tn → TG
  | .nm i => gName i
  | .tup ts => gTup K (lenN ts) (gsOf K ts)
def gsOf (K : PySem.W.Frag) : TnL → TGs
  | .nil => gNil
  | .cons t ts => gCons (gOf K t) (gsOf K ts)
def lenN : TnL → Nat
  | .nil => 0
  | .cons _ ts => lenN ts + 1
end
mutual
/-- all names lie in vs -/
def inN (vs : List Nat) : Tn → Bool
  | .nm i => vs.contains i
  | .tup ts => inNs vs ts
def inNs (vs : List Nat) : TnL → Bool
  | .nil => true
  | .cons t ts => inN vs t && inNs vs ts
end
theorem wpGs_length : ∀ (ts : TnL) {l : List D} {M : Mp} {τ : S3} {Q : S3 → Prop}, wpGs ts l M τ Q → l.length = lenN ts
  | .nil, l, M, τ, Q, h => by rw [h.1]; rfl
  | .cons t ts, [], M, τ, Q, h => h.elim
  | .cons t ts, d :: r, M, τ, Q, h => by
    have key : ∀ (t : Tn) {d : D} {M : Mp} {τ : S3} {P : S3 → Prop}, wpG t d M τ P → ∃ τ', P τ' := wpG_ex
    obtain ⟨τ', h'⟩ := key t h
    rw [List.length_cons, wpGs_length ts h']; rfl
where
  wpG_ex : ∀ (t : Tn) {d : D} {M : Mp} {τ : S3} {P : S3 → Prop}, wpG t d M τ P → ∃ τ', P τ'
    | .nm i, d, M, τ, P, h => ⟨_, h⟩
    | .tup ts, d, M, τ, P, h => by
      unfold wpG at h
      split at h
      · exact wpGs_ex ts h
      · exact h.elim
  wpGs_ex : ∀ (ts : TnL) {l : List D} {M : Mp} {τ : S3} {P : S3 → Prop}, wpGs ts l M τ P → ∃ τ', P τ'
    | .nil, l, M, τ, P, h => ⟨_, h.2⟩
    | .cons t ts, [], M, τ, P, h => h.elim
    | .cons t ts, d :: r, M, τ, P, h => by
      obtain ⟨τ', h'⟩ := wpG_ex t h
      exact wpGs_ex ts h'
end
end G3
set_option Elab.async false
set_option linter.all false
set_option maxRecDepth 100000
set_option maxHeartbeats 4000000
namespace G3
open PySem PySem.Spec PyProof.Rows L2
theorem wipe_set {σ : L2.St} {i : Nat} {o : Option V} : ∀ (vs : List Nat), i ∈ vs → wipe (σ.set i o) vs = wipe σ vs := by
  have com : ∀ (vs : List Nat) (σ : L2.St), wipe (σ.set i o) vs = if i ∈ vs then wipe σ vs else (wipe σ vs).set i o := by
    intro vs
    induction vs with
    | nil => intro σ; simp [wipe]
    | cons v vs ih =>
      intro σ
      unfold wipe
      rw [ih σ]
      by_cases h : i ∈ vs
      · simp [h]
      · by_cases e : i = v
        · subst e; simp [h, List.set_set]
        · simp [h, e, List.set_comm o none e]
  intro vs h
  rw [com vs σ, if_pos h]
theorem slots_wipe {K : PySem.W.Frag} {H : Hp} {σ : L2.St} {τ : S3} (s : Slots K H σ τ) : ∀ vs : List Nat, Slots K H (wipe σ vs) (wipe3 τ vs)
  | [] => s
  | v :: vs => (slots_wipe s vs).clear v
section
variable {K : PySem.W.Frag}
mutual
theorem gOf_ok {H : Hp} {vs : List Nat} {W : L2.St} : ∀ (t : Tn) {d : D} {v : V} {M : Mp} {τ : S3} {σ : L2.St} {P : S3 → Prop} {Q : L2.St → Hp → Prop}, Rep K H v d → Slots K H σ τ → wpG t d M τ P →
    (∀ σ2 τ2, P τ2 → Slots K H σ2 τ2 → (inN vs t = true → wipe σ vs = W → wipe σ2 vs = W) → Q σ2 H) → gOf K t v σ H Q
  | .nm i, d, v, M, τ, σ, P, Q, r, s, h, q => q _ _ h (s.set r i) fun hi e => by
    rw [wipe_set vs (by simpa [inN] using hi)]; exact e
  | .tup ts, d, v, M, τ, σ, P, Q, r, s, h, q => by
    unfold wpG at h
    cases r with
    | tup s1 q1 =>
      refine ⟨_, _, rfl, s1, ?_, gsOf_ok (vs := vs) (W := W) ts q1 s h q⟩
      rw [q1.length]
      exact wpGs_length ts h
    | _ => exact h.elim
theorem gsOf_ok {H : Hp} {vs : List Nat} {W : L2.St} : ∀ (ts : TnL) {ds : List D} {us : List V} {M : Mp} {τ : S3} {σ : L2.St} {P : S3 → Prop} {Q : L2.St → Hp → Prop}, Reps K H us ds → Slots K H σ τ → wpGs ts ds M τ P →
    (∀ σ2 τ2, P τ2 → Slots K H σ2 τ2 → (inNs vs ts = true → wipe σ vs = W → wipe σ2 vs = W) → Q σ2 H) → gsOf K ts us σ H Q
  | .nil, ds, us, M, τ, σ, P, Q, r, s, h, q => by
    obtain ⟨rfl, h⟩ := h
    cases r
    exact ⟨rfl, q _ _ h s fun _ e => e⟩
  | .cons t ts, [], us, M, τ, σ, P, Q, r, s, h, q => h.elim
  | .cons t ts, d :: ds, us, M, τ, σ, P, Q, r, s, h, q => by
    cases r with
    | cons r rs =>
      refine ⟨_, _, rfl, gOf_ok (vs := vs) (W := W) t r s h fun σ1 τ1 h1 s1 e1 => gsOf_ok (vs := vs) (W := W) ts rs s1 h1 fun σ2 τ2 h2 s2 e2 => q σ2 τ2 h2 s2 fun hi e => ?_⟩
      unfold inNs at hi
      rw [Bool.and_eq_true] at hi
      exact e2 hi.2 (e1 hi.1 e)
end
/-! ### comprehensions -/
theorem tLc_of {ti : TI3} {tn : Tn} {vs : List Nat} {tt : TT3} {te : TE3} (hin : inN vs tn = true) {σ : L2.St} {H : Hp} {Q : VK} (h : lift K (fun τ M Q => ti τ M fun ds keep M1 => lcW ds keep tn vs tt te τ M1 Q) σ H Q) :
    tLc (liftI K ti) (gOf K tn) (liftT K tt) (lift K te) vs σ H Q := by
  obtain ⟨τ, M, Q3, hr, sl, h, L⟩ := h
  refine ⟨τ, M, _, hr, sl, h, fun J ds keep H1 M1 h1 g1 hr1 it D nD => ?_⟩
  obtain ⟨I, i0, turn⟩ := h1 D (hr1.none nD)
  refine ⟨fun i m H' => m = ds.length - i ∧ i ≤ ds.length ∧ Grow K H1 H' ∧ ∃ acc M', I i acc M' ∧ HR K M' H', ⟨_, rfl, Nat.zero_le _, .new nD, [], _, i0, hr1.putL (.new nD) .nil⟩, ?_⟩
  rintro i m H' ⟨rfl, hi, gH, acc, M', hI, hr'⟩
  obtain ⟨k, hD, step, fin⟩ := turn i acc M' hI hi
  by_cases hl : i < ds.length
  · refine .inr ?_
    have hd : ds[i]? = some ds[i] := List.getElem?_eq_getElem hl
    obtain ⟨go, yld⟩ := it.1 i H' M' _ gH hr' k hd
    refine ⟨go, fun H2 => i + 1 ≤ ds.length ∧ Grow K H1 H2 ∧ ∃ acc M', I (i + 1) acc M' ∧ HR K M' H2, fun H2 q => ⟨ds.length - (i + 1), by omega, rfl, q⟩, fun x H2 y => ?_⟩
    obtain ⟨g2, hr2, rx⟩ := yld x H2 y
    have gg := g1.trans (gH.trans g2)
    refine gOf_ok (vs := vs) (W := wipe σ vs) tn rx (slots_wipe (sl.mono gg) vs) (step _ hd) fun σ2 τ2 h2 s2 e2 => ⟨e2 hin ?_, τ2, M', _, hr2, s2, h2, fun b H3 M3 h3 g3 hr3 => ?_⟩
    · clear e2 s2 h2 step fin
      -- wiping twice is wiping once
      have com : ∀ (ws : List Nat) (v : Nat) (σ : L2.St), wipe (σ.set v none) ws = (wipe σ ws).set v none := by
        intro ws v
        induction ws with
        | nil => intro σ; rfl
        | cons w ws ih =>
          intro σ
          unfold wipe
          rw [ih]
          by_cases e : v = w
          · subst e; rfl
          · rw [List.set_comm _ _ e]
      have twice : ∀ ws : List Nat, wipe (wipe σ ws) ws = wipe σ ws := by
        intro ws
        induction ws with
        | nil => rfl
        | cons w ws ih =>
          show (wipe ((wipe σ ws).set w none) ws).set w none = (wipe σ ws).set w none
          rw [com, ih, List.set_set]
      exact twice vs
    · cases b with
      | false =>
        rw [if_neg Bool.false_ne_true] at h3 ⊢
        obtain ⟨M0, sb, hI'⟩ := h3
        exact ⟨hl, (gH.trans g2).trans g3, acc, M0, hI', hr3.sub sb⟩
      | true =>
        rw [if_pos rfl] at h3 ⊢
        refine ⟨τ2, M3, _, hr3, s2.mono g3, h3, fun w H4 y M4 h4 g4 hr4 ry => ?_⟩
        obtain ⟨hz, hD4, M0, sb, hI'⟩ := h4
        obtain ⟨xs, hx, qx⟩ := hr4.list hD4
        have g5 := Grow.lst (o := .lst (xs ++ [w])) (K := K) hx
        exact ⟨xs, hx, by rw [qx.length]; exact hz, hl, (((gH.trans g2).trans g3).trans g4).trans g5, acc ++ [y], M0, hI', (hr4.putL g5 (qx.snoc ry)).sub sb⟩
  · have e : i = ds.length := by omega
    obtain ⟨M0, sb, q⟩ := fin e
    exact .inl ⟨it.2 i H' M' gH hr' k (by omega), L _ _ _ _ q (g1.trans gH) (hr'.sub sb) (.ref D)⟩
end
section
variable {X : Cx} {a b c e : Expr} {ta tb tc te : TE3} {pos apos : Pos} {es : List Expr} {tr : TA3} {n : Nat}
theorem PTsw {ifs : List Expr} {t t' : TT} (h : PTs X ifs t') (w : ∀ σ H Q, t σ H Q → t' σ H Q) : PTs X ifs t := ⟨fun pins s σ H Q I q => h.run pins s σ H Q I (w σ H Q q)⟩
theorem lts_nil : PTs X [] (liftT X.K fun τ M Q => Q true M) := PTsw pts_nil fun σ H Q h => by
  obtain ⟨τ, M, Q3, hr, sl, h, L⟩ := h
  exact L _ _ _ h .refl hr
theorem le_lc {elt tg iter : Expr} {ifs : List Expr} {scope : Scope} {own : List (Str × Nat)} {ti : TI3} {tn : Tn} {tt : TT3} (hc : X.calm = true) (hN : X.N.Nodup) (hi : PI X tg iter (liftI X.K ti)) (ok : BlkOk X.N X.env.scope scope own)
    (hg : ∀ (s : Shared) (H : Hp) (C : Addr) (cl : List (Str × Addr)) (fp : List Addr), PG (X.blk s H scope (compEnvC scope cl C X.env) fp) tg (gOf X.K tn))
    (ht : ∀ (s : Shared) (H : Hp) (C : Addr) (cl : List (Str × Addr)) (fp : List Addr), PTs (X.blk s H scope (compEnvC scope cl C X.env) fp) ifs (liftT X.K tt))
    (he : ∀ (s : Shared) (H : Hp) (C : Addr) (cl : List (Str × Addr)) (fp : List Addr), PE (X.blk s H scope (compEnvC scope cl C X.env) fp) elt (lift X.K te)) (hs : ∀ x, foldedSetIterable iter X.env x = pure x) (hin : inN (own.map (·.2)) tn = true) :
    PE X (.ListComp elt [⟨tg, iter, ifs, 0⟩] scope pos) (lift X.K fun τ M Q => ti τ M fun ds keep M1 => lcW ds keep tn (own.map (·.2)) tt te τ M1 Q) :=
  PEw (pe_lc hc hN hi ok hg ht he hs) fun σ H Q h => tLc_of hin h
theorem ls_lc {i : Nat} {y : Str} {py spos : Pos} {elt tg iter : Expr} {ifs : List Expr} {scope : Scope} {own : List (Str × Nat)} {ti : TI3} {tn : Tn} {tt : TT3} (hc : X.calm = true) (hN : X.N.Nodup) (hy : X.N[i]? = some y) (hyl : X.env.scope.names.lookup y = some .local)
    (hsw : swapsWith (.ListComp elt [⟨tg, iter, ifs, 0⟩] scope pos) (some (.Name y py)) spos.line X.env = pure true) (hi : PI X tg iter (liftI X.K ti)) (ok : BlkOk X.N X.env.scope scope own)
    (hg : ∀ (s : Shared) (H : Hp) (C : Addr) (cl : List (Str × Addr)) (fp : List Addr), PG (X.blk s H scope (compEnvC scope cl C X.env) fp) tg (gOf X.K tn))
    (ht : ∀ (s : Shared) (H : Hp) (C : Addr) (cl : List (Str × Addr)) (fp : List Addr), PTs (X.blk s H scope (compEnvC scope cl C X.env) fp) ifs (liftT X.K tt))
    (he : ∀ (s : Shared) (H : Hp) (C : Addr) (cl : List (Str × Addr)) (fp : List Addr), PE (X.blk s H scope (compEnvC scope cl C X.env) fp) elt (lift X.K te)) (hs : ∀ x, foldedSetIterable iter X.env x = pure x) (hin : inN (own.map (·.2)) tn = true) :
    PS X (.Assign [.Name y py] (.ListComp elt [⟨tg, iter, ifs, 0⟩] scope pos) spos) (liftS X.K fun D τ M => ti τ M fun ds keep M1 => lcW ds keep tn (own.map (·.2)) tt te τ M1 fun d M2 => D.nx (τ.set i (some d)) M2) :=
  PSw (ps_setLc hc hN hy hyl hsw hi ok hg ht he hs) fun D σ H h => by
    obtain ⟨τ, M, D3, hr, sl, h, L⟩ := h
    exact tLc_of (Q := fun x H1 => gName i x σ H1 D.nx) hin ⟨τ, M, fun d M2 => D3.nx (τ.set i (some d)) M2, hr, sl, h, fun v H1 d M1 h1 g1 hr1 r1 => L.nx _ _ _ _ h1 g1 hr1 ((sl.mono g1).set r1 i)⟩
/-! ### statements -/
theorem ls_set {tn : Tn} {tg : Expr} (ha : PE X a (lift X.K ta)) (hg : PG X tg (gOf X.K tn)) (hs : swapsWithSole [tg] a pos.line X.env = pure false) (hw : swappedStores [tg] a X.env = pure none) (h1 : (assignEach [tg] X.env).map (·.2) = [assign tg X.env]) :
    PS X (.Assign [tg] a pos) (liftS X.K fun D τ M => ta τ M fun d M1 => wpG tn d M1 τ fun τ' => D.nx τ' M1) := PSw (ps_asg ha hg hs hw h1) fun D σ H h => by
  obtain ⟨τ, M, D3, hr, sl, h, L⟩ := h
  exact ⟨τ, M, _, hr, sl, h, fun v H1 d M1 h1 g1 hr1 r1 => gOf_ok (vs := []) (W := []) tn r1 (sl.mono g1) h1 fun σ2 τ2 h2 s2 _ => L.nx _ _ _ _ h2 g1 hr1 s2⟩
def liftSet (K : PySem.W.Frag) (r : D → D → D → Mp → (Mp → Prop) → Prop) : TSet := fun o i v H Q => ∃ d e x M Q3, HR K M H ∧ Rep K H o d ∧ Rep K H i e ∧ Rep K H v x ∧ r d e x M Q3 ∧ ∀ H' M', Q3 M' → Grow K H H' → HR K M' H' → Q H'
theorem putK_ok {K : PySem.W.Frag} {H : Hp} {k : Key} {v : V} {x : D} {xs : List (Key × V)} {l : List (Key × D)} (q : PK3 K H xs l) (r : Rep K H v x) : PK3 K H (putK xs k v) (putD l k x) := by
  have anyK : (xs.any fun kv => decide (kv.1 = k)) = l.any fun kv => decide (kv.1 = k) := by
    induction q with
    | nil => rfl
    | cons r _ ih => rw [List.any_cons, List.any_cons, ih, r.1]
  unfold putK putD
  rw [anyK]
  by_cases ha : (l.any fun kv => decide (kv.1 = k)) = true
  · rw [if_pos ha, if_pos ha]
    clear anyK ha
    induction q with
    | nil => exact .nil
    | @cons p p' _ _ r' _ ih =>
      refine .cons ?_ ih
      by_cases e : p.1 = k
      · have e' : p'.1 = k := r'.1.symm.trans e
        dsimp only
        rw [if_pos e, if_pos e']
        exact ⟨r'.1, r⟩
      · have e' : ¬ p'.1 = k := fun z => e (r'.1.trans z)
        dsimp only
        rw [if_neg e, if_neg e']
        exact r'
  · rw [if_neg ha, if_neg ha]
    clear anyK ha
    induction q with
    | nil => exact .cons ⟨rfl, r⟩ .nil
    | cons r' _ ih => exact .cons r' ih
theorem set_ok (hu : X.A.units + 64 < cLine) : PSet X (liftSet X.K set3) := by
  intro pins s σ H o i v ov iv u Q I ro ri rv h
  obtain ⟨d, e, x, M, Q3, hr, r1, r2, r3, h, L⟩ := h
  unfold set3 at h
  cases r1 with
  | ref p =>
    dsimp only at h
    split at h
    · rename_i l el
      obtain ⟨k, rfl, h⟩ := isI_inv h
      obtain ⟨j, ej, h⟩ := some3_inv h
      obtain ⟨xs, hx, q⟩ := hr.list el
      cases r2
      exact set_list pins s σ H _ _ _ ov iv u Q I ro ri rv ⟨_, _, _, j, rfl, rfl, hx, by rw [q.length]; exact ej, L _ _ h (.lst hx) (hr.putL (.lst hx) (q.set r3 j))⟩
    · rename_i l el
      obtain ⟨k, ek, hz, h⟩ := some3_inv h
      obtain ⟨xs, hx, q⟩ := hr.dic el
      have e2 := keyD_ok r2 ek
      subst e2
      obtain rfl : ov = Value.ref p := ro
      exact d_setItem (by omega) I (DPut.k hx (by rw [PK3.length q]; exact hz)) ri rv fun s' I' => ⟨_, I', L _ _ h (.dK hx) (hr.put (.dK hx) ⟨_, upd_same, Paired.mapP (putK_ok q r3) fun a b z => ⟨z.1, Rep.mono (.dK hx) _ z.2⟩⟩)⟩
    · exact h.elim
  | _ => exact h.elim
/-- o[i] read, by values -/
theorem get_ok (hu : X.A.units + 64 < cLine) : PGet X (lift2 X.K getR3) := by
  intro pins s σ H x y v u Q I rx ry h
  obtain ⟨d, e, M, Q3, hr, r1, r2, h, L⟩ := h
  have itemL : ∀ {p : Addr} {xs : List V} {l : List D} {i : Int} {z : D}, v = .ref p → SqL X.K H p xs → Reps X.K H xs l → (∃ t, u = .int i t) → atI l i = some z → Q3 z M → wpAny (model X.prog X.w) X.A (getItem v u) (EP X pins σ Q) X.xe s := by
    intro p xs l i z ev hs q eu ez q3
    subst ev
    obtain ⟨t, rfl⟩ := eu
    obtain ⟨w, hw, rw'⟩ := q.atI ez
    obtain ⟨its, r, pl, hz⟩ := I.list hs
    obtain ⟨j, h1, h2, h3, h4, h5⟩ := atI_get hw
    obtain ⟨wv, ew, rwv⟩ := r.get h2
    have hl := r.length
    have hn := line63
    have fin : EP X pins σ Q wv s := ⟨w, H, I, rwv, L.here hr rw' q3⟩
    by_cases h0 : 0 ≤ i
    · have hj : i.toNat = j := by
        rw [seqIndex_of h0 h5] at h1
        exact Option.some.inj h1
      exact wpAny_getItem_list pl.isList h0 (by omega) (by rw [hj]; simpa using ew) fin
    · have hj : (i + (its.toArray.size : Int)).toNat = j := by
        rw [seqIndex_neg (by omega) h4] at h1
        rw [List.size_toArray, ← hl]
        exact Option.some.inj h1
      exact wpAny_getItem_list_neg pl.isList (by omega) (by rw [List.size_toArray] <;> omega) (by omega) (by rw [hj]; simpa using ew) fin
  unfold getR3 at h
  cases r1 with
  | ref p =>
    unfold ix3 at h
    dsimp only at h
    split at h
    · rename_i l e1
      obtain ⟨xs, hx, q1⟩ := hr.list e1
      cases r2 <;> try exact h.elim
      dsimp only at h
      split at h
      · rename_i z hz
        exact itemL rx (SqL.of hx) q1 ry hz h
      · exact h.elim
    · rename_i l e1
      obtain ⟨xs, hx, q1⟩ := hr.dic e1
      split at h
      · rename_i k ek
        split at h
        · rename_i z hz
          have e2 := keyD_ok r2 ek
          subst e2
          obtain rfl : v = Value.ref p := rx
          rcases getK_ok (k := k) q1 with ⟨z1, z2⟩ | ⟨w, d', z1, z2, rw'⟩
          · rw [hz] at z2; cases z2
          · rw [hz] at z2; cases z2
            exact d_getItem (by omega) I (by rw [← z1]; exact DGet.k hx) ry fun w' s3 I3 rw3 => ⟨w, H, I3, rw3, L.here hr rw' h⟩
        · exact h.elim
      · exact h.elim
    · exact h.elim
  | _ => exact h.elim
theorem aug_ok : ∀ b : Bop, PIp X b.op (lift2 X.K (aug3 b)) := by
  intro b pins s σ H x y v u Q I rx ry h
  obtain ⟨d, e, M, Q3, hr, r1, r2, h, L⟩ := h
  cases b with
  | add =>
    cases d <;> cases e <;> try exact False.elim h
    · cases r1; cases r2; exact iop_add pins s σ H _ _ v u Q I rx ry ⟨_, _, rfl, rfl, L.here hr (.int _) h⟩
    · cases r1; cases r2; exact iop_add_str pins s σ H _ _ v u Q I rx ry ⟨_, _, rfl, rfl, h.1, L.here hr (.str _) h.2⟩
    · cases r1; cases r2
      unfold aug3 at h
      dsimp only at h
      split at h
      · rename_i l m e1 e2
        obtain ⟨xs, hx, qx⟩ := hr.list (getL_some e1)
        obtain ⟨ys, hy, qy⟩ := hr.list (getL_some e2)
        exact iop_ext pins s σ H _ _ v u Q I rx ry ⟨_, _, _, _, rfl, rfl, hx, hy, by rw [qx.length, qy.length]; exact h.1, L _ _ _ _ h.2 (.lst hx) (hr.putL (.lst hx) (qx.append qy)) (.ref _)⟩
      · exact h.elim
  | sub =>
    cases d <;> cases e <;> try exact False.elim h
    cases r1; cases r2; exact iop_sub pins s σ H _ _ v u Q I rx ry ⟨_, _, rfl, rfl, L.here hr (.int _) h⟩
  | mul =>
    cases d <;> cases e <;> try exact False.elim h
    cases r1; cases r2; exact iop_mul pins s σ H _ _ v u Q I rx ry ⟨_, _, rfl, rfl, h.1, L.here hr (.int _) h.2⟩
  | fdiv =>
    cases d <;> cases e <;> try exact False.elim h
    cases r1; cases r2; exact iop_fdiv pins s σ H _ _ v u Q I rx ry ⟨_, _, rfl, rfl, h.1, L.here hr (.int _) h.2⟩
  | mod =>
    cases d <;> cases e <;> try exact False.elim h
    cases r1; cases r2; exact iop_mod pins s σ H _ _ v u Q I rx ry ⟨_, _, rfl, rfl, h.1, L.here hr (.int _) h.2⟩
  | pow => cases d <;> cases e <;> exact False.elim h
  | shl => cases d <;> cases e <;> exact False.elim h
  | shr => cases d <;> cases e <;> exact False.elim h
variable {i : Expr} {ti' : TE3}
theorem le_setSub {p' : Pos} (hu : X.A.units + 64 < cLine) (hv : PE X e (lift X.K te)) (ho : PE X a (lift X.K ta)) (hi : PE X i (lift X.K ti')) (hs : swapsWithSole [.Subscript a i p'] e pos.line X.env = pure false) (hw : swappedStores [.Subscript a i p'] e X.env = pure none)
    (has : ∀ v, assign (.Subscript a i p') X.env v = (do
      let ov ← holding [v] (eval a X.env)
      let iv ← holding [v, ov] (eval i X.env)
      standAt p'
      holding [v, ov, iv] (setItem ov iv v)
      release [v, ov, iv] [])) :
    PS X (.Assign [.Subscript a i p'] e pos) (liftS X.K fun D τ M => te τ M fun x M1 => ta τ M1 fun d M2 => ti' τ M2 fun y M3 => set3 d y x M3 fun M4 => D.nx τ M4) :=
  PSw (ps_asg hv (pg_sub ho hi (set_ok hu) has) hs hw rfl) fun D σ H h => by
    obtain ⟨τ, M, D3, hr, sl, h, L⟩ := h
    exact ⟨τ, M, _, hr, sl, h, fun v H1 d M1 h1 g1 hr1 r1 => ⟨τ, M1, _, hr1, sl.mono g1, h1, fun w H2 e M2 h2 g2 hr2 r2 => ⟨τ, M2, _, hr2, sl.mono (g1.trans g2), h2, fun u H3 f M3 h3 g3 hr3 r3 =>
      ⟨e, f, d, M3, _, hr3, Rep.mono g3 _ r2, r3, Rep.mono (g2.trans g3) _ r1, h3, fun H4 M4 h4 g4 hr4 => L.nx _ _ _ _ h4 (((g1.trans g2).trans g3).trans g4) hr4 (sl.mono (((g1.trans g2).trans g3).trans g4))⟩⟩⟩⟩
theorem ls_aug {j : Nat} {x : Str} {o : Bop} {p' : Pos} (hN : X.N.Nodup) (hj : X.N[j]? = some x) (hx : Loc X.env.scope x) (he : PE X e (lift X.K te)) (hf : X.fn x = true ∨ X.env.scope.names.lookup x = some .local) :
    PS X (.AugAssign (.Name x p') o.op e pos) (liftS X.K fun D τ M => some3 τ[j]? fun o' => some3 o' fun x => te τ M fun y M1 => aug3 o x y M1 fun z M2 => D.nx (τ.set j (some z)) M2) :=
  PSw (ps_aug hN hj hx he (aug_ok o) hf) fun D σ H h => by
    obtain ⟨τ, M, D3, hr, sl, h, L⟩ := h
    obtain ⟨oo, e1, h⟩ := some3_inv h
    obtain ⟨d, rfl, h⟩ := some3_inv h
    obtain ⟨v, ev, rv⟩ := sl.get e1
    exact ⟨v, ev, τ, M, _, hr, sl, h, fun w H1 f M1 h1 g1 hr1 r1 => ⟨d, f, M1, _, hr1, Rep.mono g1 _ rv, r1, h1, fun u H2 z M2 h2 g2 hr2 r2 => L.nx _ _ _ _ h2 (g1.trans g2) hr2 ((sl.mono (g1.trans g2)).set r2 j)⟩⟩
theorem ls_augSub {o : Bop} {p' : Pos} (hu : X.A.units + 64 < cLine) (ho : PE X a (lift X.K ta)) (hi : PE X i (lift X.K ti')) (he : PE X e (lift X.K te))
    (hst : ∀ ov iv new, augStore i ov iv new = (do holding [new, ov, iv] (setItem ov iv new); release [new, ov, iv] []; pure .next)) :
    PS X (.AugAssign (.Subscript a i p') o.op e pos) (liftS X.K fun D τ M => ta τ M fun d M1 => ti' τ M1 fun k M2 => getR3 d k M2 fun x M3 => te τ M3 fun y M4 => aug3 o x y M4 fun z M5 => set3 d k z M5 fun M6 => D.nx τ M6) :=
  PSw (ps_augS ho hi (get_ok hu) he (aug_ok o) (set_ok hu) hst) fun D σ H h => by
    obtain ⟨τ, M, D3, hr, sl, h, L⟩ := h
    exact ⟨τ, M, _, hr, sl, h, fun v H1 d M1 h1 g1 hr1 r1 => ⟨τ, M1, _, hr1, sl.mono g1, h1, fun w H2 k M2 h2 g2 hr2 r2 => ⟨d, k, M2, _, hr2, Rep.mono g2 _ r1, r2, h2, fun u H3 x M3 h3 g3 hr3 r3 =>
      have g12 := (g1.trans g2).trans g3
      ⟨τ, M3, _, hr3, sl.mono g12, h3, fun v4 H4 y M4 h4 g4 hr4 r4 => ⟨x, y, M4, _, hr4, Rep.mono g4 _ r3, r4, h4, fun v5 H5 z M5 h5 g5 hr5 r5 =>
        ⟨d, k, z, M5, _, hr5, Rep.mono (((g2.trans g3).trans g4).trans g5) _ r1, Rep.mono ((g3.trans g4).trans g5) _ r2, r5, h5, fun H6 M6 h6 g6 hr6 =>
          have gg := ((g12.trans g4).trans g5).trans g6
          L.nx _ _ _ _ h6 gg hr6 (sl.mono gg)⟩⟩⟩⟩⟩⟩
theorem ls_ex (ha : PE X a (lift X.K ta)) (hs : swapsWith a none pos.line X.env = pure false) : PS X (.Expr a pos) (liftS X.K fun D τ M => ta τ M fun _ M1 => D.nx τ M1) := PSw (ps_expr ha hs) fun D σ H h => by
  obtain ⟨τ, M, D3, hr, sl, h, L⟩ := h
  exact ⟨τ, M, _, hr, sl, h, fun v H1 d M1 h1 g1 hr1 r1 => L.nx _ _ _ _ h1 g1 hr1 (sl.mono g1)⟩
theorem ls_ret (ha : PE X a (lift X.K ta)) : PS X (.Return (some a) pos) (liftS X.K fun D τ M => ta τ M D.rt) := PSw (ps_ret ha) fun D σ H h => by
  obtain ⟨τ, M, D3, hr, sl, h, L⟩ := h
  exact ⟨τ, M, _, hr, sl, h, L.rt⟩
theorem ls_ret0 : PS X (.Return none pos) (liftS X.K fun D τ M => D.rt .non M) := PSw ps_retN fun D σ H h => by
  obtain ⟨τ, M, D3, hr, sl, h, L⟩ := h
  exact L.rt.here hr .non h
theorem ls_brk : PS X (.Break pos) (liftS X.K fun D τ M => D.bk τ M) := PSw ps_break fun D σ H h => by
  obtain ⟨τ, M, D3, hr, sl, h, L⟩ := h
  exact L.bk _ _ _ _ h .refl hr sl
theorem ls_cont : PS X (.Continue pos) (liftS X.K fun D τ M => D.ct τ M) := PSw ps_continue fun D σ H h => by
  obtain ⟨τ, M, D3, hr, sl, h, L⟩ := h
  exact L.ct _ _ _ _ h .refl hr sl
theorem ls_pass : PS X (.Pass pos) (liftS X.K fun D τ M => D.nx τ M) := PSw ps_pass fun D σ H h => by
  obtain ⟨τ, M, D3, hr, sl, h, L⟩ := h
  exact L.nx _ _ _ _ h .refl hr sl
theorem lss_nil : PSs X [] (liftS X.K fun D τ M => D.nx τ M) := PSsw pss_nil fun D σ H h => by
  obtain ⟨τ, M, D3, hr, sl, h, L⟩ := h
  exact L.nx _ _ _ _ h .refl hr sl
theorem lss_cons {s : Stmt} {ss : List Stmt} {t u : TS3} (h1 : PS X s (liftS X.K t)) (h2 : PSs X ss (liftS X.K u)) : PSs X (s :: ss) (liftS X.K fun D τ M => t { D with nx := u D } τ M) := PSsw (pss_cons h1 h2) fun D σ H h => by
  obtain ⟨τ, M, D3, hr, sl, h, L⟩ := h
  exact ⟨τ, M, _, hr, sl, h, ⟨fun σ' H' τ' M' q g hr' sl' => ⟨τ', M', D3, hr', sl', q, L.from g⟩, L.rt, L.bk, L.ct⟩⟩
theorem ls_if {pa pb : List Stmt} {tt : TT3} {t u : TS3} (hc : PT X c (liftT X.K tt)) (ha : PSs X pa (liftS X.K t)) (hb : PSs X pb (liftS X.K u)) :
    PS X (.If c pa pb pos) (liftS X.K fun D τ M => tt τ M fun k M1 => if k = true then t D τ M1 else u D τ M1) := PSw (ps_if hc ha hb) fun D σ H h => by
  obtain ⟨τ, M, D3, hr, sl, h, L⟩ := h
  refine ⟨τ, M, _, hr, sl, h, fun k H1 M1 h1 g1 hr1 => ?_⟩
  cases k with
  | true => rw [if_pos rfl] at h1 ⊢; exact ⟨τ, M1, D3, hr1, sl.mono g1, h1, L.from g1⟩
  | false => rw [if_neg Bool.false_ne_true] at h1 ⊢; exact ⟨τ, M1, D3, hr1, sl.mono g1, h1, L.from g1⟩
theorem ls_while {pb : List Stmt} {tt : TT3} {t : TS3} (hp : PassesOwn (model X.prog X.w) X.A X.env X.xe) (hc : PT X c (liftT X.K tt)) (hb : PSs X pb (liftS X.K t)) :
    PS X (.While c pb [] pos) (liftS X.K fun D τ M => whileW tt t D τ M) := PSw (ps_while hp hc hb) fun D σ H h => by
  obtain ⟨τ, M, D3, hr, sl, ⟨I, ⟨n0, i0⟩, turn⟩, L⟩ := h
  refine ⟨fun m σ' H' => Grow X.K H H' ∧ ∃ τ' M', I m τ' M' ∧ HR X.K M' H' ∧ Slots X.K H' σ' τ', ⟨n0, .refl, τ, M, i0, hr, sl⟩, ?_⟩
  rintro m σ' H' ⟨g, τ', M', hI, hr', sl'⟩
  refine ⟨τ', M', _, hr', sl', turn m τ' M' hI, fun k H1 M1 h1 g1 hr1 => ?_⟩
  cases k with
  | false => rw [if_neg Bool.false_ne_true] at h1 ⊢; obtain ⟨M0, sb, q⟩ := h1; exact L.nx _ _ _ _ q (g.trans g1) (hr1.sub sb) (sl'.mono g1)
  | true =>
    rw [if_pos rfl] at h1 ⊢
    have again : ∀ σ2 H2 τ2 M2, (∃ k, k < m ∧ wk (I k τ2) M2) → Grow X.K H1 H2 → HR X.K M2 H2 → Slots X.K H2 σ2 τ2 → ∃ k, k < m ∧ Grow X.K H H2 ∧ ∃ τ' M', I k τ' M' ∧ HR X.K M' H2 ∧ Slots X.K H2 σ2 τ' := fun σ2 H2 τ2 M2 q g2 hr2 sl2 => by
      obtain ⟨k, hk, M0, sb, hI2⟩ := q
      exact ⟨k, hk, (g.trans g1).trans g2, τ2, M0, hI2, hr2.sub sb, sl2⟩
    have q : liftS X.K t { D with nx := fun σ2 H2 => ∃ k, k < m ∧ Grow X.K H H2 ∧ ∃ τ' M', I k τ' M' ∧ HR X.K M' H2 ∧ Slots X.K H2 σ2 τ', ct := fun σ2 H2 => ∃ k, k < m ∧ Grow X.K H H2 ∧ ∃ τ' M', I k τ' M' ∧ HR X.K M' H2 ∧ Slots X.K H2 σ2 τ', bk := D.nx } σ' H1 :=
      ⟨τ', M1, _, hr1, sl'.mono g1, h1, ⟨again, L.rt.from (g.trans g1), fun a b c d q g2 => L.nx a b c d q ((g.trans g1).trans g2), again⟩⟩
    exact ⟨_, fun σ2 H2 q => q, q⟩
theorem ls_for {tg iter : Expr} {pb : List Stmt} {ti : TI3} {tn : Tn} {t : TS3} (hp : PassesOwn (model X.prog X.w) X.A X.env X.xe) (hc : X.calm = true) (hi : PI X tg iter (liftI X.K ti)) (hg : PG X tg (gOf X.K tn)) (hb : PSs X pb (liftS X.K t))
    (hs : ∀ x, foldedSetIterable iter X.env x = pure x) :
    PS X (.For tg iter pb [] pos) (liftS X.K fun D τ M => ti τ M fun ds keep M1 => forW ds keep tn t D τ M1) := PSw (ps_for hp hc hi hg hb hs) fun D σ H h => by
  obtain ⟨τ, M, D3, hr, sl, h, L⟩ := h
  refine ⟨τ, M, _, hr, sl, h, fun J ds keep H1 M1 h1 g1 hr1 it => ?_⟩
  obtain ⟨I, i0, turn⟩ := h1
  refine ⟨fun i m σ' H' => m = ds.length - i ∧ i ≤ ds.length ∧ Grow X.K H1 H' ∧ ∃ τ' M', I i τ' M' ∧ HR X.K M' H' ∧ Slots X.K H' σ' τ', ⟨_, rfl, Nat.zero_le _, .refl, τ, M1, i0, hr1, sl.mono g1⟩, ?_⟩
  rintro i m σ' H' ⟨rfl, hi, gH, τ', M', hI, hr', sl'⟩
  obtain ⟨k, step, fin⟩ := turn i τ' M' hI hi
  by_cases hl : i < ds.length
  · refine .inr ?_
    have hd : ds[i]? = some ds[i] := List.getElem?_eq_getElem hl
    obtain ⟨go, yld⟩ := it.1 i H' M' _ gH hr' k hd
    refine ⟨go, fun σ2 H2 => i + 1 ≤ ds.length ∧ Grow X.K H1 H2 ∧ ∃ τ' M', I (i + 1) τ' M' ∧ HR X.K M' H2 ∧ Slots X.K H2 σ2 τ', fun σ2 H2 q => ⟨ds.length - (i + 1), by omega, rfl, q⟩, fun x H2 y => ?_⟩
    obtain ⟨g2, hr2, rx⟩ := yld x H2 y
    have g12 := g1.trans (gH.trans g2)
    have again : ∀ σ3 H3 τ3 M3, wk (I (i + 1) τ3) M3 → Grow X.K H2 H3 → HR X.K M3 H3 → Slots X.K H3 σ3 τ3 → i + 1 ≤ ds.length ∧ Grow X.K H1 H3 ∧ ∃ τ' M', I (i + 1) τ' M' ∧ HR X.K M' H3 ∧ Slots X.K H3 σ3 τ' := fun σ3 H3 τ3 M3 q g3 hr3 sl3 => by
      obtain ⟨M0, sb, hI2⟩ := q
      exact ⟨hl, (gH.trans g2).trans g3, τ3, M0, hI2, hr3.sub sb, sl3⟩
    refine gOf_ok (vs := []) (W := []) tn rx (sl'.mono g2) (step _ hd) fun σ2 τ2 h2 s2 _ => ⟨τ2, M', _, hr2, s2, h2, ⟨again, L.rt.from g12, fun a b c d q g3 => L.nx a b c d q (g12.trans g3), again⟩⟩
  · have e : i = ds.length := by omega
    obtain ⟨M0, sb, q⟩ := fin e
    exact .inl ⟨it.2 i H' M' gH hr' k (by omega), L.nx _ _ _ _ q (g1.trans gH) (hr'.sub sb) sl'⟩
theorem ls_par {j k : Nat} {x y : Str} {px py pt : Pos} {kt k2 pt2} (hc : X.calm = true) (hN : X.N.Nodup) (hi : X.N[j]? = some x) (hj : X.N[k]? = some y) (hij : j ≠ k)
    (hx : X.env.scope.names.lookup x = some .local) (hy : X.env.scope.names.lookup y = some .local) (ha : PE X a (lift X.K ta)) (hb : PE X b (lift X.K tb)) (he : starEach [a, b] X.env = (false, eval a X.env) :: starEach [b] X.env) (he2 : starEach [b] X.env = (false, eval b X.env) :: starEach [] X.env)
    (hw : swappedStores [.Tuple [.Name x px, .Name y py] kt pt] (.Tuple [a, b] k2 pt2) X.env = pure (some [x, y])) :
    PS X (.Assign [.Tuple [.Name x px, .Name y py] kt pt] (.Tuple [a, b] k2 pt2) pos) (liftS X.K fun D τ M => ta τ M fun d M1 => tb τ M1 fun e M2 => D.nx ((τ.set j (some d)).set k (some e)) M2) :=
  PSw (ps_par hc hN hi hj hij hx hy (la_cons ha (la_cons hb la_nil he2) he) hw) fun D σ H h => by
    obtain ⟨τ, M, D3, hr, sl, h, L⟩ := h
    refine ⟨τ, M, fun ds M2 => two ds fun d e => D3.nx ((τ.set j (some d)).set k (some e)) M2, hr, sl, h, fun vs H1 ds M1 h1 g1 hr1 r1 _ => ?_⟩
    obtain ⟨d, e, rfl, h2⟩ := two_inv h1
    obtain ⟨v, w, rfl, r, r'⟩ := Reps2 r1
    exact ⟨v, w, rfl, L.nx _ _ _ _ h2 g1 hr1 (((sl.mono g1).set r j).set r' k)⟩
end

section
variable {K : PySem.W.Frag}
theorem wipe_twice {σ : L2.St} : ∀ ws : List Nat, wipe (wipe σ ws) ws = wipe σ ws := by
  have com : ∀ (ws : List Nat) (v : Nat) (σ : L2.St), wipe (σ.set v none) ws = (wipe σ ws).set v none := by
    intro ws v
    induction ws with
    | nil => intro σ; rfl
    | cons w ws ih =>
      intro σ
      unfold wipe
      rw [ih]
      by_cases e : v = w
      · subst e; rfl
      · rw [List.set_comm _ _ e]
  intro ws
  induction ws with
  | nil => rfl
  | cons w ws ih =>
    show (wipe ((wipe σ ws).set w none) ws).set w none = (wipe σ ws).set w none
    rw [com, ih, List.set_set]
/-! ### dict comprehensions -/
theorem tDc_of {ti : TI3} {tn : Tn} {vs : List Nat} {tt : TT3} {tk tv : TE3} (hin : inN vs tn = true) {σ : L2.St} {H : Hp} {Q : VK} (h : lift K (fun τ M Q => ti τ M fun ds keep M1 => dcW ds keep tn vs tt tk tv τ M1 Q) σ H Q) :
    tDc (liftI K ti) (gOf K tn) (liftT K tt) (lift K tk) (lift K tv) vs σ H Q := by
  obtain ⟨τ, M, Q3, hr, sl, h, L⟩ := h
  refine ⟨τ, M, _, hr, sl, h, fun J ds keep H1 M1 h1 g1 hr1 it D nD => ?_⟩
  obtain ⟨I, i0, turn⟩ := h1 D (hr1.none nD)
  refine ⟨fun i m H' => m = ds.length - i ∧ i ≤ ds.length ∧ Grow K H1 H' ∧ ∃ acc M', I i acc M' ∧ HR K M' H', ⟨_, rfl, Nat.zero_le _, .new nD, [], _, i0, hr1.put (.new nD) ⟨_, upd_same, .nil⟩⟩, ?_⟩
  rintro i m H' ⟨rfl, hi, gH, acc, M', hI, hr'⟩
  obtain ⟨k, hD, step, fin⟩ := turn i acc M' hI hi
  by_cases hl : i < ds.length
  · refine .inr ?_
    have hd : ds[i]? = some ds[i] := List.getElem?_eq_getElem hl
    obtain ⟨go, yld⟩ := it.1 i H' M' _ gH hr' k hd
    refine ⟨go, fun H2 => i + 1 ≤ ds.length ∧ Grow K H1 H2 ∧ ∃ acc M', I (i + 1) acc M' ∧ HR K M' H2, fun H2 q => ⟨ds.length - (i + 1), by omega, rfl, q⟩, fun x H2 y => ?_⟩
    obtain ⟨g2, hr2, rx⟩ := yld x H2 y
    have gg := g1.trans (gH.trans g2)
    refine gOf_ok (vs := vs) (W := wipe σ vs) tn rx (slots_wipe (sl.mono gg) vs) (step _ hd) fun σ2 τ2 h2 s2 e2 => ⟨e2 hin (wipe_twice vs), τ2, M', _, hr2, s2, h2, fun b H3 M3 h3 g3 hr3 => ?_⟩
    cases b with
    | false =>
      rw [if_neg Bool.false_ne_true] at h3 ⊢
      obtain ⟨M0, sb, hI'⟩ := h3
      exact ⟨hl, (gH.trans g2).trans g3, acc, M0, hI', hr3.sub sb⟩
    | true =>
      rw [if_pos rfl] at h3 ⊢
      refine ⟨τ2, M3, _, hr3, s2.mono g3, h3, fun w H4 y M4 h4 g4 hr4 ry => ?_⟩
      refine ⟨τ2, M4, _, hr4, (s2.mono g3).mono g4, h4, fun w2 H5 z M5 h5 g5 hr5 rz => ?_⟩
      obtain ⟨kk, ek, hz, hD5, M0, sb, hI'⟩ := some3_inv h5
      obtain ⟨xs, hx, qx⟩ := hr5.dic hD5
      have e2 := keyD_ok (ry.mono g5) ek
      have g6 := Grow.dK (o := .dK (putK xs kk w2)) (K := K) hx
      have hp := hr5.put (o := .dic (putD acc kk z)) g6 ⟨_, upd_same, Paired.mapP (putK_ok qx rz) fun a b z => ⟨z.1, Rep.mono g6 _ z.2⟩⟩
      exact ⟨xs, kk, e2, hx, by rw [PK3.length qx]; exact hz, hl, ((((gH.trans g2).trans g3).trans g4).trans g5).trans g6, putD acc kk z, M0, hI', hp.sub sb⟩
  · have e : i = ds.length := by omega
    obtain ⟨M0, sb, q⟩ := fin e
    exact .inl ⟨it.2 i H' M' gH hr' k (by omega), L _ _ _ _ q (g1.trans gH) (hr'.sub sb) (.ref D)⟩
/-! ### comprehensions of two loops -/
theorem tLc2_of {ti ti1 : TI3} {tn tn1 : Tn} {vs vs1 : List Nat} {te : TE3} (hin : inN vs tn = true) (hin1 : inN vs1 tn1 = true) {σ : L2.St} {H : Hp} {Q : VK} (h : lift K (fun τ M Q => ti τ M fun ds keep M1 => lc2W ds keep tn vs ti1 tn1 vs1 te τ M1 Q) σ H Q) :
    tLc2 (liftI K ti) (gOf K tn) (liftT K fun τ M Q => Q true M) (liftI K ti1) (gOf K tn1) (liftT K fun τ M Q => Q true M) (lift K te) vs vs1 σ H Q := by
  obtain ⟨τ, M, Q3, hr, sl, h, L⟩ := h
  refine ⟨τ, M, _, hr, sl, h, fun J ds keep H1 M1 h1 g1 hr1 it D nD => ?_⟩
  obtain ⟨I, i0, turn⟩ := h1 D (hr1.none nD)
  refine ⟨fun i m H' => m = ds.length - i ∧ i ≤ ds.length ∧ Grow K H1 H' ∧ ∃ acc M', I i acc M' ∧ HR K M' H', ⟨_, rfl, Nat.zero_le _, .new nD, [], _, i0, hr1.putL (.new nD) .nil⟩, ?_⟩
  rintro i m H' ⟨rfl, hi, gH, acc, M', hI, hr'⟩
  obtain ⟨k, step, fin⟩ := turn i acc M' hI hi
  by_cases hl : i < ds.length
  · refine .inr ?_
    have hd : ds[i]? = some ds[i] := List.getElem?_eq_getElem hl
    obtain ⟨go, yld⟩ := it.1 i H' M' _ gH hr' k hd
    refine ⟨go, fun H2 => i + 1 ≤ ds.length ∧ Grow K H1 H2 ∧ ∃ acc M', I (i + 1) acc M' ∧ HR K M' H2, fun H2 q => ⟨ds.length - (i + 1), by omega, rfl, q⟩, fun x H2 y => ?_⟩
    obtain ⟨g2, hr2, rx⟩ := yld x H2 y
    have gg := g1.trans (gH.trans g2)
    refine gOf_ok (vs := vs) (W := wipe σ vs) tn rx (slots_wipe (sl.mono gg) vs) (step _ hd) fun σ2 τ2 h2 s2 e2 => ⟨e2 hin (wipe_twice vs), τ2, M', fun b M3 => b = true ∧ M3 = M', hr2, s2, ⟨rfl, rfl⟩, fun b H3 M3 h3 g3 hr3 => ?_⟩
    obtain ⟨rfl, rfl⟩ := h3
    rw [if_pos rfl]
    refine ⟨τ2, M3, _, hr3, s2.mono g3, h2, fun J1 ds1 keep1 H4 M4 h4 g4 hr4 it1 => ?_⟩
    obtain ⟨I1, j0, turn1⟩ := h4
    have gH4 : Grow K H1 H4 := ((gH.trans g2).trans g3).trans g4
    refine ⟨fun j m H' => m = ds1.length - j ∧ j ≤ ds1.length ∧ Grow K H4 H' ∧ ∃ acc M', I1 j acc M' ∧ HR K M' H', ⟨_, rfl, Nat.zero_le _, .refl, acc, _, j0, hr4⟩, ?_⟩
    rintro j m H5 ⟨rfl, hj, gH5, acc1, M5, hI1, hr5⟩
    obtain ⟨k1, step1, fin1⟩ := turn1 j acc1 M5 hI1 hj
    by_cases hl1 : j < ds1.length
    · refine .inr ?_
      have hd1 : ds1[j]? = some ds1[j] := List.getElem?_eq_getElem hl1
      obtain ⟨go1, yld1⟩ := it1.1 j H5 M5 _ gH5 hr5 k1 hd1
      refine ⟨go1, fun H2 => j + 1 ≤ ds1.length ∧ Grow K H4 H2 ∧ ∃ acc M', I1 (j + 1) acc M' ∧ HR K M' H2, fun H2 q => ⟨ds1.length - (j + 1), by omega, rfl, q⟩, fun x1 H6 y1 => ?_⟩
      obtain ⟨g6, hr6, rx1⟩ := yld1 x1 H6 y1
      refine gOf_ok (vs := vs1) (W := wipe σ2 vs1) tn1 rx1 (slots_wipe (((s2.mono g3).mono g4).mono (gH5.trans g6)) vs1) (step1 _ hd1) fun σ3 τ3 h7 s3 e3 => ⟨e3 hin1 (wipe_twice vs1), τ3, M5, fun b M3 => b = true ∧ M3 = M5, hr6, s3, ⟨rfl, rfl⟩, fun b H7 M7 h8 g7 hr7 => ?_⟩
      obtain ⟨rfl, rfl⟩ := h8
      rw [if_pos rfl]
      refine ⟨τ3, M7, _, hr7, s3.mono g7, h7, fun w H8 y M8 h9 g8 hr8 ry => ?_⟩
      obtain ⟨hz, hD8, M0, sb, hI'⟩ := h9
      obtain ⟨xs, hx, qx⟩ := hr8.list hD8
      have g9 := Grow.lst (o := .lst (xs ++ [w])) (K := K) hx
      exact ⟨xs, hx, by rw [qx.length]; exact hz, hl1, (((gH5.trans g6).trans g7).trans g8).trans g9, acc1 ++ [y], M0, hI', (hr8.putL g9 (qx.snoc ry)).sub sb⟩
    · have e : j = ds1.length := by omega
      obtain ⟨M0, sb, q⟩ := fin1 e
      exact .inl ⟨it1.2 j H5 M5 gH5 hr5 k1 (by omega), hl, gH4.trans gH5, acc1, M0, q, hr5.sub sb⟩
  · have e : i = ds.length := by omega
    obtain ⟨M0, sb, q⟩ := fin e
    exact .inl ⟨it.2 i H' M' gH hr' k (by omega), L _ _ _ _ q (g1.trans gH) (hr'.sub sb) (.ref D)⟩
end
section
variable {X : Cx}
theorem le_dc {kx vx tg iter : Expr} {ifs : List Expr} {scope : Scope} {own : List (Str × Nat)} {pos : Pos} {ti : TI3} {tn : Tn} {tt : TT3} {tk tv : TE3} (hc : X.calm = true) (hN : X.N.Nodup) (hi : PI X tg iter (liftI X.K ti)) (ok : BlkOk X.N X.env.scope scope own)
    (hg : ∀ (s : Shared) (H : Hp) (C : Addr) (cl : List (Str × Addr)) (fp : List Addr), PG (X.blk s H scope (compEnvC scope cl C X.env) fp) tg (gOf X.K tn))
    (ht : ∀ (s : Shared) (H : Hp) (C : Addr) (cl : List (Str × Addr)) (fp : List Addr), PTs (X.blk s H scope (compEnvC scope cl C X.env) fp) ifs (liftT X.K tt))
    (hk : ∀ (s : Shared) (H : Hp) (C : Addr) (cl : List (Str × Addr)) (fp : List Addr), PE (X.blk s H scope (compEnvC scope cl C X.env) fp) kx (lift X.K tk))
    (he : ∀ (s : Shared) (H : Hp) (C : Addr) (cl : List (Str × Addr)) (fp : List Addr), PE (X.blk s H scope (compEnvC scope cl C X.env) fp) vx (lift X.K tv)) (hs : ∀ x, foldedSetIterable iter X.env x = pure x) (hin : inN (own.map (·.2)) tn = true) :
    PE X (.DictComp kx vx [⟨tg, iter, ifs, 0⟩] scope pos) (lift X.K fun τ M Q => ti τ M fun ds keep M1 => dcW ds keep tn (own.map (·.2)) tt tk tv τ M1 Q) :=
  PEw (pe_dc hc hN hi ok hg ht hk he hs) fun σ H Q h => tDc_of hin h
theorem le_lc2 {elt tg iter tg1 iter1 : Expr} {scope : Scope} {own : List (Str × Nat)} {vs1 : List Nat} {pos : Pos} {ti ti1 : TI3} {tn tn1 : Tn} {te : TE3} (hc : X.calm = true) (hN : X.N.Nodup) (hi : PI X tg iter (liftI X.K ti)) (ok : BlkOk X.N X.env.scope scope own) (hv : ∀ i ∈ vs1, i ∈ own.map (·.2))
    (hg : ∀ (s : Shared) (H : Hp) (C : Addr) (cl : List (Str × Addr)) (fp : List Addr), PG (X.blk s H scope (compEnvC scope cl C X.env) fp) tg (gOf X.K tn))
    (hi1 : ∀ (s : Shared) (H : Hp) (C : Addr) (cl : List (Str × Addr)) (fp : List Addr), PI (X.blk s H scope (compEnvC scope cl C X.env) fp) tg1 iter1 (liftI X.K ti1))
    (hg1 : ∀ (s : Shared) (H : Hp) (C : Addr) (cl : List (Str × Addr)) (fp : List Addr), PG (X.blk s H scope (compEnvC scope cl C X.env) fp) tg1 (gOf X.K tn1))
    (he : ∀ (s : Shared) (H : Hp) (C : Addr) (cl : List (Str × Addr)) (fp : List Addr), PE (X.blk s H scope (compEnvC scope cl C X.env) fp) elt (lift X.K te)) (hs : ∀ x, foldedSetIterable iter X.env x = pure x) (hs1 : ∀ env x, foldedSetIterable iter1 env x = pure x) (hin : inN (own.map (·.2)) tn = true) (hin1 : inN vs1 tn1 = true) :
    PE X (.ListComp elt [⟨tg, iter, [], 0⟩, ⟨tg1, iter1, [], 0⟩] scope pos) (lift X.K fun τ M Q => ti τ M fun ds keep M1 => lc2W ds keep tn (own.map (·.2)) ti1 tn1 vs1 te τ M1 Q) :=
  PEw (pe_lc2 hc hN hi ok hv hg (fun _ _ _ _ _ => lts_nil) hi1 hg1 (fun _ _ _ _ _ => lts_nil) he hs hs1) fun σ H Q h => tLc2_of hin hin1 h
theorem ls_lc2 {i : Nat} {y : Str} {py spos : Pos} {elt tg iter tg1 iter1 : Expr} {scope : Scope} {own : List (Str × Nat)} {vs1 : List Nat} {pos : Pos} {ti ti1 : TI3} {tn tn1 : Tn} {te : TE3} (hc : X.calm = true) (hN : X.N.Nodup) (hy : X.N[i]? = some y) (hyl : X.env.scope.names.lookup y = some .local)
    (hsw : swapsWith (.ListComp elt [⟨tg, iter, [], 0⟩, ⟨tg1, iter1, [], 0⟩] scope pos) (some (.Name y py)) spos.line X.env = pure true) (hi : PI X tg iter (liftI X.K ti)) (ok : BlkOk X.N X.env.scope scope own) (hv : ∀ i ∈ vs1, i ∈ own.map (·.2))
    (hg : ∀ (s : Shared) (H : Hp) (C : Addr) (cl : List (Str × Addr)) (fp : List Addr), PG (X.blk s H scope (compEnvC scope cl C X.env) fp) tg (gOf X.K tn))
    (hi1 : ∀ (s : Shared) (H : Hp) (C : Addr) (cl : List (Str × Addr)) (fp : List Addr), PI (X.blk s H scope (compEnvC scope cl C X.env) fp) tg1 iter1 (liftI X.K ti1))
    (hg1 : ∀ (s : Shared) (H : Hp) (C : Addr) (cl : List (Str × Addr)) (fp : List Addr), PG (X.blk s H scope (compEnvC scope cl C X.env) fp) tg1 (gOf X.K tn1))
    (he : ∀ (s : Shared) (H : Hp) (C : Addr) (cl : List (Str × Addr)) (fp : List Addr), PE (X.blk s H scope (compEnvC scope cl C X.env) fp) elt (lift X.K te)) (hs : ∀ x, foldedSetIterable iter X.env x = pure x) (hs1 : ∀ env x, foldedSetIterable iter1 env x = pure x) (hin : inN (own.map (·.2)) tn = true) (hin1 : inN vs1 tn1 = true) :
    PS X (.Assign [.Name y py] (.ListComp elt [⟨tg, iter, [], 0⟩, ⟨tg1, iter1, [], 0⟩] scope pos) spos) (liftS X.K fun D τ M => ti τ M fun ds keep M1 => lc2W ds keep tn (own.map (·.2)) ti1 tn1 vs1 te τ M1 fun d M2 => D.nx (τ.set i (some d)) M2) :=
  PSw (ps_setLc2 hc hN hy hyl hsw hi ok hv hg (fun _ _ _ _ _ => lts_nil) hi1 hg1 (fun _ _ _ _ _ => lts_nil) he hs hs1) fun D σ H h => by
    obtain ⟨τ, M, D3, hr, sl, h, L⟩ := h
    exact tLc2_of (Q := fun x H1 => gName i x σ H1 D.nx) hin hin1 ⟨τ, M, fun d M2 => D3.nx (τ.set i (some d)) M2, hr, sl, h, fun v H1 d M1 h1 g1 hr1 r1 => L.nx _ _ _ _ h1 g1 hr1 ((sl.mono g1).set r1 i)⟩
theorem ps_setDc {i : Nat} {y : Str} {py : Pos} {kx vx tg iter : Expr} {ifs : List Expr} {scope : Scope} {own : List (Str × Nat)} {pos spos : Pos} {wi : TI} {g : TG} {tt : TT} {tk tv : TE} (hc : X.calm = true) (hN : X.N.Nodup) (hy : X.N[i]? = some y) (hyl : X.env.scope.names.lookup y = some .local)
    (hsw : swapsWith (.DictComp kx vx [⟨tg, iter, ifs, 0⟩] scope pos) (some (.Name y py)) spos.line X.env = pure true) (hi : PI X tg iter wi) (ok : BlkOk X.N X.env.scope scope own)
    (hg : ∀ (s : Shared) (H : Hp) (C : Addr) (cl : List (Str × Addr)) (fp : List Addr), PG (X.blk s H scope (compEnvC scope cl C X.env) fp) tg g) (ht : ∀ (s : Shared) (H : Hp) (C : Addr) (cl : List (Str × Addr)) (fp : List Addr), PTs (X.blk s H scope (compEnvC scope cl C X.env) fp) ifs tt)
    (hk : ∀ (s : Shared) (H : Hp) (C : Addr) (cl : List (Str × Addr)) (fp : List Addr), PE (X.blk s H scope (compEnvC scope cl C X.env) fp) kx tk)
    (he : ∀ (s : Shared) (H : Hp) (C : Addr) (cl : List (Str × Addr)) (fp : List Addr), PE (X.blk s H scope (compEnvC scope cl C X.env) fp) vx tv) (hs : ∀ x, foldedSetIterable iter X.env x = pure x) :
    PS X (.Assign [.Name y py] (.DictComp kx vx [⟨tg, iter, ifs, 0⟩] scope pos) spos) (tAsg (tDc wi g tt tk tv (own.map (·.2))) (gName i)) := by
  refine ⟨fun pins s σ H D I h => ?_⟩
  rw [exec_Assign_Name_used _ _ _ _ hsw]
  refine wpAny_bind (wpAny_standAt (wpAny_bind ?_))
  show wpAny _ X.A (do let _ ← comprehension (.DictComp kx vx [⟨tg, iter, ifs, 0⟩] scope pos) scope X.env (firstIterPos [⟨tg, iter, ifs, 0⟩] pos) newDict false (eval iter X.env) (some (assign (.Name y py) X.env))) _ _ s
  have h : tDc wi g tt tk tv (own.map (·.2)) σ H (fun x H1 => gName i x σ H1 D.nx) := h
  refine wpAny_bind (thn (dc_core (Qf := fun _ s' => SP X pins D .next s') hc hN I hi ok hg ht hk he hs h fun L C s' m H' I' q hn f => ?_) fun _ s' hq => wpAny_pure (wpAny_pure hq))
  show wpAny _ _ (assign (.Name y py) X.env (.ref L)) _ _ _
  refine wpAny_assign_Name (store_ok2 (v := V.ref L) I' hN hy (.inl hyl) rfl (fun s2 I2 ⟨a, sb, ha⟩ => ?_) (.inr hyl))
  obtain ⟨f0, f1, f2, f3, f4, f5⟩ := f
  have haC : C ≠ a := by
    rcases ha with z | z
    · rw [z]; exact f1
    · exact fun e => f4 y a z e.symm
  refine ⟨m, hn.sameBut sb haC, fun h3 sb3 => ?_⟩
  exact ⟨_, H', I2.turned (t' := s2.toks) (fun b o hb e => (sb3.2 b hb).trans e) f0 f1 f3 f4 f5, q⟩
theorem ls_dc {i : Nat} {y : Str} {py spos : Pos} {kx vx tg iter : Expr} {ifs : List Expr} {scope : Scope} {own : List (Str × Nat)} {pos : Pos} {ti : TI3} {tn : Tn} {tt : TT3} {tk tv : TE3} (hc : X.calm = true) (hN : X.N.Nodup) (hy : X.N[i]? = some y) (hyl : X.env.scope.names.lookup y = some .local)
    (hsw : swapsWith (.DictComp kx vx [⟨tg, iter, ifs, 0⟩] scope pos) (some (.Name y py)) spos.line X.env = pure true) (hi : PI X tg iter (liftI X.K ti)) (ok : BlkOk X.N X.env.scope scope own)
    (hg : ∀ (s : Shared) (H : Hp) (C : Addr) (cl : List (Str × Addr)) (fp : List Addr), PG (X.blk s H scope (compEnvC scope cl C X.env) fp) tg (gOf X.K tn))
    (ht : ∀ (s : Shared) (H : Hp) (C : Addr) (cl : List (Str × Addr)) (fp : List Addr), PTs (X.blk s H scope (compEnvC scope cl C X.env) fp) ifs (liftT X.K tt))
    (hk : ∀ (s : Shared) (H : Hp) (C : Addr) (cl : List (Str × Addr)) (fp : List Addr), PE (X.blk s H scope (compEnvC scope cl C X.env) fp) kx (lift X.K tk))
    (he : ∀ (s : Shared) (H : Hp) (C : Addr) (cl : List (Str × Addr)) (fp : List Addr), PE (X.blk s H scope (compEnvC scope cl C X.env) fp) vx (lift X.K tv)) (hs : ∀ x, foldedSetIterable iter X.env x = pure x) (hin : inN (own.map (·.2)) tn = true) :
    PS X (.Assign [.Name y py] (.DictComp kx vx [⟨tg, iter, ifs, 0⟩] scope pos) spos) (liftS X.K fun D τ M => ti τ M fun ds keep M1 => dcW ds keep tn (own.map (·.2)) tt tk tv τ M1 fun d M2 => D.nx (τ.set i (some d)) M2) :=
  PSw (ps_setDc hc hN hy hyl hsw hi ok hg ht hk he hs) fun D σ H h => by
    obtain ⟨τ, M, D3, hr, sl, h, L⟩ := h
    exact tDc_of (Q := fun x H1 => gName i x σ H1 D.nx) hin ⟨τ, M, fun d M2 => D3.nx (τ.set i (some d)) M2, hr, sl, h, fun v H1 d M1 h1 g1 hr1 r1 => L.nx _ _ _ _ h1 g1 hr1 ((sl.mono g1).set r1 i)⟩
end
end G3
set_option Elab.async false
set_option linter.all false
set_option maxRecDepth 100000
set_option maxHeartbeats 8000000
/-! the own syntax against the text, and what it asks is enough -/
namespace G3
open PySem PySem.Spec PyProof.Rows L2

/-! ### looks at the text -/
def nStar : Expr → Bool
  | .Starred _ _ => false
  | _ => true
def nSl : Expr → Bool
  | .Slice _ _ _ _ => false
  | _ => true
def nSet : Expr → Bool
  | .Set _ _ _ => false
  | _ => true
def nComp : Expr → Bool
  | .ListComp _ _ _ _ | .SetComp _ _ _ _ | .DictComp _ _ _ _ _ => false
  | _ => true
def nSuper : Expr → Bool
  | .Call (.Name _ _) [] [] _ => false
  | _ => true
theorem star1 {e : Expr} {es : List Expr} {env : Env} (h : nStar e = true) : starEach (e :: es) env = (false, eval e env) :: starEach es env := by
  cases e <;> first | rfl | cases h
theorem starAny : ∀ {es : List Expr} {env : Env} {pos : Pos}, es.all nStar = true → (backTo pos (starEach es env)).any (·.1) = false
  | [], _, _, _ => rfl
  | e :: es, env, pos, h => by
    rw [List.all_cons, Bool.and_eq_true] at h
    rw [star1 h.1]
    have := starAny (env := env) (pos := pos) h.2
    unfold backTo at this ⊢
    rw [List.map_cons, List.any_cons, this]
    rfl
theorem starAll : ∀ {es : List Expr} {env : Env} {pos : Pos}, es.all nStar = true → (backTo pos (starEach es env)).all (fun x => !x.1) = true
  | [], _, _, _ => rfl
  | e :: es, env, pos, h => by
    rw [List.all_cons, Bool.and_eq_true] at h
    rw [star1 h.1]
    have := starAll (env := env) (pos := pos) h.2
    unfold backTo at this ⊢
    rw [List.map_cons, List.all_cons, this]
    rfl
theorem few_ok {es : List Expr} {env : Env} {pos : Pos} (h : es.all nStar = true) (hl : es.length < 20) :
    ((backTo pos (starEach es env)).all (fun x => !x.1) && (backToKw pos (keywordEach [] env)).all (fun x => x.1.isSome) && decide (es.length + ([] : List Keyword).length + (if ([] : List Keyword).isEmpty then 0 else 1) < 30)) = true := by
  rw [starAll h]
  show (true && true && decide (es.length + 0 + 0 < 30)) = true
  simp
  omega
theorem plain_ix {b : Expr} (h : nSl b = true) : PlainIx b := by
  intro o i
  cases b <;> first | rfl | cases h
theorem mark_ok {op : CmpOp} {b : Expr} (h : nSet b = true) : behindInMarks op b = false := by
  cases b <;> first | rfl | cases h
theorem fold_ok {it : Expr} {env : Env} (h : nSet it = true) : ∀ x, foldedSetIterable it env x = pure x := by
  intro x
  cases it <;> first | rfl | cases h
theorem sw_no {e : Expr} {t : Option Expr} {l : Nat} {env : Env} (h : nComp e = true) : swapsWith e t l env = pure false := by
  cases e <;> first | rfl | cases h
theorem base_ok {o : Expr} {m : Str} {env : Env} {w : Sem Value} (h : nSuper o = true) : attributeBase o m env w = w := by
  unfold attributeBase
  split
  · cases h
  · rfl
theorem swn {x : Str} {p : Pos} {v : Expr} {env : Env} : swappedStores [.Name x p] v env = pure none := rfl
theorem sws {x y : Expr} {p : Pos} {v : Expr} {env : Env} : swappedStores [.Subscript x y p] v env = pure none := rfl
theorem swt {ts : List Expr} {k : Nat} {p : Pos} {v : Expr} {l : Nat} {env : Env} : swapsWith v (some (.Tuple ts k p)) l env = pure false := by
  cases v <;> rfl
theorem swu {a b : Expr} {p : Pos} {v : Expr} {l : Nat} {env : Env} : swapsWith v (some (.Subscript a b p)) l env = pure false := by
  cases v <;> rfl
theorem sw_c {y : Str} {py p : Pos} {elt : Expr} {gens : List Comprehension} {scope : Scope} {line : Nat} {env : Env} : swapsWith (.ListComp elt gens scope p) (some (.Name y py)) line env =
    pure (env.blockKind == .function && env.kindOf y == some .local && py.line == p.line && !(scope.names.any fun (n, k) => n == y && (k == .local || k == .cell))) := rfl
/-- what swapsWith says of a comprehension stored under a name -/
def swB (sc : Scope) (y : Str) (py : Pos) (v : Expr) : Bool := match v with
  | .ListComp _ _ scope p => sc.names.lookup y == some .local && py.line == p.line && !(scope.names.any fun (n, k) => n == y && (k == .local || k == .cell))
  | .SetComp _ _ _ _ => true
  | .DictComp _ _ _ scope p => sc.names.lookup y == some .local && py.line == p.line && !(scope.names.any fun (n, k) => n == y && (k == .local || k == .cell))
  | _ => false
theorem sw_d {y : Str} {py p : Pos} {kx vx : Expr} {gens : List Comprehension} {scope : Scope} {line : Nat} {env : Env} : swapsWith (.DictComp kx vx gens scope p) (some (.Name y py)) line env =
    pure (env.blockKind == .function && env.kindOf y == some .local && py.line == p.line && !(scope.names.any fun (n, k) => n == y && (k == .local || k == .cell))) := rfl
theorem swB_no {sc : Scope} {y : Str} {py : Pos} {v : Expr} {l : Nat} {env : Env} (hs : env.scope = sc) (h : swB sc y py v = false) : swapsWith v (some (.Name y py)) l env = pure false := by
  subst hs
  cases v with
  | ListComp elt gens scope p =>
    rw [sw_c]
    have e : (env.blockKind == .function && env.kindOf y == some .local && py.line == p.line && !(scope.names.any fun (n, k) => n == y && (k == .local || k == .cell))) = false := by
      have h' : (env.kindOf y == some .local && py.line == p.line && !(scope.names.any fun (n, k) => n == y && (k == .local || k == .cell))) = false := h
      rw [Bool.and_assoc, Bool.and_assoc]
      rw [Bool.and_assoc] at h'
      rw [h', Bool.and_false]
    rw [e]
  | SetComp _ _ _ _ => cases h
  | DictComp kx vx gens scope p =>
    rw [sw_d]
    have e : (env.blockKind == .function && env.kindOf y == some .local && py.line == p.line && !(scope.names.any fun (n, k) => n == y && (k == .local || k == .cell))) = false := by
      have h' : (env.kindOf y == some .local && py.line == p.line && !(scope.names.any fun (n, k) => n == y && (k == .local || k == .cell))) = false := h
      rw [Bool.and_assoc, Bool.and_assoc]
      rw [Bool.and_assoc] at h'
      rw [h', Bool.and_false]
    rw [e]
  | _ => rfl
theorem swB_yesD {sc : Scope} {y : Str} {py p : Pos} {kx vx : Expr} {gens : List Comprehension} {scope : Scope} {l : Nat} {env : Env} (hs : env.scope = sc) (hk : sc.kind = .function) (h : swB sc y py (.DictComp kx vx gens scope p) = true) :
    swapsWith (.DictComp kx vx gens scope p) (some (.Name y py)) l env = pure true := by
  subst hs
  rw [sw_d]
  have hb : env.blockKind = .function := by unfold Env.blockKind; rw [hk]; rfl
  have h' : (env.kindOf y == some .local && py.line == p.line && !(scope.names.any fun (n, k) => n == y && (k == .local || k == .cell))) = true := h
  rw [hb, Bool.and_assoc, Bool.and_assoc]
  rw [Bool.and_assoc] at h'
  rw [h']; rfl
theorem swB_yes {sc : Scope} {y : Str} {py p : Pos} {elt : Expr} {gens : List Comprehension} {scope : Scope} {l : Nat} {env : Env} (hs : env.scope = sc) (hk : sc.kind = .function) (h : swB sc y py (.ListComp elt gens scope p) = true) :
    swapsWith (.ListComp elt gens scope p) (some (.Name y py)) l env = pure true := by
  subst hs
  rw [sw_c]
  have hb : env.blockKind = .function := by unfold Env.blockKind; rw [hk]; rfl
  have h' : (env.kindOf y == some .local && py.line == p.line && !(scope.names.any fun (n, k) => n == y && (k == .local || k == .cell))) = true := h
  rw [hb, Bool.and_assoc, Bool.and_assoc]
  rw [Bool.and_assoc] at h'
  rw [h']; rfl
def swNames (sc : Scope) (ts : List Expr) : List Str := ts.filterMap fun x => match x with
  | .Name id pos => if (sc.names.lookup id == some .local && pos.line == (ts.head?.map (·.pos.line)).getD 0) = true then some id else none
  | _ => none
def swNone (sc : Scope) (ts vs : List Expr) : Bool := (!(ts.length == 2 || ts.length == 3) || vs.length != ts.length) || ((swNames sc ts).length != ts.length || (swNames sc ts).eraseDups.length != (swNames sc ts).length) || vs.all (foldedForSure 8)
theorem swNone_ok {ts vs : List Expr} {k k2 : Nat} {p p2 : Pos} {sc : Scope} {env : Env} (hs : env.scope = sc) (h : swNone sc ts vs = true) : swappedStores [.Tuple ts k p] (.Tuple vs k2 p2) env = pure none := by
  subst hs
  unfold swappedStores
  simp only []
  split
  · rfl
  · rename_i h1
    split
    · rfl
    · split
      · rfl
      · rename_i h3
        split
        · rfl
        · rename_i h4
          exfalso
          unfold swNone at h
          rw [Bool.or_eq_true, Bool.or_eq_true] at h
          rcases h with (h | h) | h
          · exact h1 (by rw [h, Bool.true_or])
          · exact h3 h
          · exact h4 h
def swSome (sc : Scope) (x y : Str) (px py : Pos) (a b : Expr) : Bool :=
  sc.names.lookup x == some .local && sc.names.lookup y == some .local && py.line == px.line && x != y && nStar a && nStar b && !([a, b].all (foldedForSure 8)) && !([a, b].all (constantsAlone 8))
theorem swSome_ok {x y : Str} {px py pt p2 : Pos} {a b : Expr} {k k2 : Nat} {sc : Scope} {env : Env} (hs : env.scope = sc) (hk : sc.kind = .function) (h : swSome sc x y px py a b = true) :
    swappedStores [.Tuple [.Name x px, .Name y py] k pt] (.Tuple [a, b] k2 p2) env = pure (some [x, y]) := by
  subst hs
  unfold swSome at h
  simp only [Bool.and_eq_true, Bool.not_eq_true', beq_iff_eq, bne_iff_ne] at h
  obtain ⟨⟨⟨⟨⟨⟨⟨hx, hy⟩, hl⟩, hne⟩, na⟩, nb⟩, hf⟩, hc⟩ := h
  have hb : env.blockKind = .function := by unfold Env.blockKind; rw [hk]; rfl
  have kx : env.kindOf x = some .local := hx
  have ky : env.kindOf y = some .local := hy
  have st : ([a, b].any fun x => match x with
      | Expr.Starred value pos => true
      | x => false) = false := by
    have f : ∀ z : Expr, (match z with
      | Expr.Starred value pos => true
      | z => false) = !nStar z := fun z => by cases z <;> rfl
    rw [List.any_cons, List.any_cons, f a, f b, na, nb]; rfl
  have ed : [x, y].eraseDups = [x, y] := by
    simp [List.eraseDups_cons, hne.symm]
  unfold swappedStores
  simp only [hb, st, hf, hc]
  simp [kx, ky, hl, ed, Expr.pos]
  intro h
  exfalso
  rcases h with h | h
  · split at h
    · cases na
    · cases h
  · split at h
    · cases nb
    · cases h

/-! ### the check -/
structure Ck where
  N : List Str
  bl : List Str
  im : List (Str × String)
def visB (sc : Scope) (x : Str) : Bool := match sc.names.lookup x with
  | some .local => true
  | some .cell => true
  | some .free => true
  | _ => false
theorem visB_ok {sc : Scope} {x : Str} (h : visB sc x = true) : Vis sc x := by
  unfold visB at h
  split at h
  · exact .inl (by assumption)
  · exact .inr (.inl (by assumption))
  · exact .inr (.inr (by assumption))
  · cases h
def locB (sc : Scope) (x : Str) : Bool := match sc.names.lookup x with
  | some .local => true
  | some .cell => true
  | _ => false
def glB (sc : Scope) (x : Str) : Bool := decide (sc.names.lookup x = some .globalImplicit)
def okName (x : Str) : Bool := !(x == ("__debug__" : Str)) && !(x == ("__classdict__" : Str)) && !(x == ("__name__" : Str))
def chkC : D → Const → Bool
  | .non, .none => true
  | .bl b, .bool b' => b == b'
  | .int i, .int j => i == j
  | .str x, .str y => x == y
  | _, _ => false
def Bi.nm : Bi → Str
  | .len => "len" | .abs => "abs" | .int => "int" | .max1 => "max" | .max2 => "max" | .min1 => "min" | .min2 => "min" | .sum => "sum" | .sorted => "sorted" | .list => "list" | .tuple => "tuple" | .all => "all" | .any => "any"
  | .gcd => "gcd" | .lcm => "lcm" | .isi _ => "isinstance"
/-- by the built-in names, a type's name, or imported -/
inductive BiK | fn (id : String) | ty (id : String) | im (id : String) | no
def Bi.k : Bi → BiK
  | .len => .fn "len" | .abs => .fn "abs" | .int => .ty "int" | .max1 => .fn "max" | .max2 => .fn "max" | .min1 => .fn "min" | .min2 => .fn "min" | .sum => .fn "sum" | .sorted => .fn "sorted" | .list => .ty "list" | .tuple => .ty "tuple"
  | .all => .fn "all" | .any => .fn "any" | .gcd => .im "math.gcd" | .lcm => .im "math.lcm" | .isi _ => .no
def relB (scope sc : Scope) : Scope := { scope with names := scope.names.map fun (n, k) => if (k == .free && sc.kind == .function && sc.names.lookup n == some .cell) then (n, .cell) else (n, k) }
mutual
def chkTn (N : List Str) (ss : Scope) : Tn → Expr → Bool
  | .nm i, e => (match e with
    | .Name x _ => decide (N[i]? = some x) && locB ss x
    | _ => false)
  | .tup ts, e => (match e with
    | .Tuple es _ _ => chkTns N ss ts es
    | _ => false)
def chkTns (N : List Str) (ss : Scope) : TnL → List Expr → Bool
  | .nil, es => es.isEmpty
  | .cons t ts, es => (match es with
    | e :: r => nStar e && chkTn N ss t e && chkTns N ss ts r
    | [] => false)
end
def strN (l : List (String × Nat)) : List (Str × Nat) := l.map fun p => (Str.ofString p.1, p.2)
def isTup : Expr → Bool
  | .Tuple _ _ _ => true
  | _ => false
mutual
def chkE (C : Ck) : Scope → E → Expr → Bool
  | sc, .v i, e => (match e with
    | .Name x _ => decide (C.N[i]? = some x) && visB sc x && okName x
    | _ => false)
  | sc, .c d, e => (match e with
    | .Constant k _ _ => chkC d k
    | _ => false)
  | sc, .tup es, e => (match e with
    | .Tuple xs _ _ => chkEL C sc es xs && decide (xs.length ≤ 1000)
    | _ => false)
  | sc, .lst es, e => (match e with
    | .List xs _ => chkEL C sc es xs && decide (xs.length ≤ 1000)
    | _ => false)
  | sc, .bin o a b, e => (match e with
    | .BinOp l op r _ => decide (op = o.op) && chkE C sc a l && chkE C sc b r
    | _ => false)
  | sc, .neg a, e => (match e with
    | .UnaryOp .USub x _ => chkE C sc a x
    | _ => false)
  | sc, .cmp o a b, e => (match e with
    | .Compare l [op] [r] _ => decide (op = o.op) && chkE C sc a l && chkE C sc b r && nSet r
    | _ => false)
  | sc, .chain o o' a b c, e => (match e with
    | .Compare l [op, op'] [r, r'] _ => decide (op = o.op) && decide (op' = o'.op) && chkE C sc a l && chkE C sc b r && chkE C sc c r' && nSet r'
    | _ => false)
  | sc, .and es, e => (match e with
    | .BoolOp .And xs _ => chkEL C sc es xs && !xs.isEmpty
    | _ => false)
  | sc, .or es, e => (match e with
    | .BoolOp .Or xs _ => chkEL C sc es xs && !xs.isEmpty
    | _ => false)
  | sc, .not a, e => (match e with
    | .UnaryOp .Not x _ => chkE C sc a x
    | _ => false)
  | sc, .ite t a b, e => (match e with
    | .IfExp x y z _ => chkE C sc t x && chkE C sc a y && chkE C sc b z
    | _ => false)
  | sc, .ix a b, e => (match e with
    | .Subscript x y _ => chkE C sc a x && chkE C sc b y && nSl y
    | _ => false)
  | sc, .sl a lo hi, e => (match e with
    | .Subscript x (.Slice l h none _) _ => chkE C sc a x && chkO C sc lo l && chkO C sc hi h
    | _ => false)
  | sc, .rev a, e => (match e with
    | .Subscript x (.Slice none none (some (.UnaryOp .USub (.Constant (.int 1) _ _) _)) _) _ => chkE C sc a x
    | _ => false)
  | sc, .call f _ es, e => (match e with
    | .Call (.Name x _) xs [] _ => decide (x = Str.ofString f) && glB sc x && okName x && chkEL C sc es xs
    | _ => false)
  | sc, .bi b es, e => (match e with
    | .Call (.Name x _) xs [] _ => decide (x = b.nm) && glB sc x && chkEL C sc es xs && !xs.isEmpty && (match b.k with
      | .fn _ => C.bl.contains x
      | .ty _ => C.bl.contains x
      | .im id => C.im.contains (x, id)
      | .no => false)
    | _ => false)
  | sc, .isi a ts, e => (match e with
    | .Call (.Name x _) [y, .Name z _] [] _ => decide (x = "isinstance") && glB sc x && C.bl.contains x && chkE C sc a y && nStar y && (match ts with
      | [t] => decide (z = Str.ofString t) && askTy.contains t && glB sc z && C.bl.contains z
      | _ => false)
    | .Call (.Name x _) [y, .Tuple [.Name z _, .Name z' _] _ _] [] _ => decide (x = "isinstance") && glB sc x && C.bl.contains x && chkE C sc a y && nStar y && (match ts with
      | [t, t'] => decide (z = Str.ofString t) && askTy.contains t && glB sc z && C.bl.contains z && decide (z' = Str.ofString t') && askTy.contains t' && glB sc z' && C.bl.contains z'
      | _ => false)
    | _ => false)
  | sc, .lrg a, e => (match e with
    | .Call (.Name x _) [.Call (.Name y _) [z] [] _] [] _ => decide (x = "list") && glB sc x && C.bl.contains x && decide (y = "range") && glB sc y && C.bl.contains y && chkE C sc a z && nStar z
    | _ => false)
  | sc, .me m o es, e => (match e with
    | .Call (.Attribute x nm ap) xs [] p => decide (nm = m.nm) && chkE C sc o x && chkEL C sc es xs && nSuper x && (ap.endLine == p.line) && decide (xs.length < 20)
    | _ => false)
  | sc, .lc own tn it t b, e => (match e with
    | .ListComp elt [⟨tg, iter, ifs, 0⟩] scope _ => blkC C.N sc scope (strN own) && chkTn C.N scope tn tg && inN (own.map (·.2)) tn && chkI C sc it iter && nSet iter && isTup tg == (match it with
        | .enum _ => true
        | .zip _ _ => true
        | _ => isTup tg) && chkTO C (relB scope sc) t ifs && chkE C (relB scope sc) b elt
    | _ => false)
  | sc, .lc2 own tn it vs1 tn1 it1 b, e => (match e with
    | .ListComp elt [⟨tg, iter, [], 0⟩, ⟨tg1, iter1, [], 0⟩] scope _ => blkC C.N sc scope (strN own) && chkTn C.N scope tn tg && inN (own.map (·.2)) tn && chkI C sc it iter && nSet iter && isTup tg == (match it with
        | .enum _ => true
        | .zip _ _ => true
        | _ => isTup tg) && chkTn C.N scope tn1 tg1 && inN vs1 tn1 && chkI C (relB scope sc) it1 iter1 && nSet iter1 && isTup tg1 == (match it1 with
        | .enum _ => true
        | .zip _ _ => true
        | _ => isTup tg1) && (vs1.all fun i => (own.map (·.2)).contains i) && chkE C (relB scope sc) b elt
    | _ => false)
  | sc, .dc own tn it t k b, e => (match e with
    | .DictComp kx vx [⟨tg, iter, ifs, 0⟩] scope _ => blkC C.N sc scope (strN own) && chkTn C.N scope tn tg && inN (own.map (·.2)) tn && chkI C sc it iter && nSet iter && isTup tg == (match it with
        | .enum _ => true
        | .zip _ _ => true
        | _ => isTup tg) && chkTO C (relB scope sc) t ifs && chkE C (relB scope sc) k kx && chkE C (relB scope sc) b vx
    | _ => false)
  | sc, .dic0, e => (match e with
    | .Dict [] [] _ => true
    | _ => false)
def chkEL (C : Ck) : Scope → EL → List Expr → Bool
  | sc, .nil, xs => xs.isEmpty
  | sc, .cons e es, xs => (match xs with
    | x :: r => nStar x && chkE C sc e x && chkEL C sc es r
    | [] => false)
def chkO (C : Ck) : Scope → EO → Option Expr → Bool
  | sc, .no, o => o.isNone
  | sc, .ex e, o => (match o with
    | some x => chkE C sc e x
    | none => false)
def chkTO (C : Ck) : Scope → EO → List Expr → Bool
  | sc, .no, l => l.isEmpty
  | sc, .ex e, l => (match l with
    | [x] => chkE C sc e x
    | _ => false)
def chkI (C : Ck) : Scope → It3 → Expr → Bool
  | sc, .seq a, e => chkE C sc a e
  | sc, .rng1 a, e => (match e with
    | .Call (.Name y _) [z] [] _ => decide (y = "range") && glB sc y && C.bl.contains y && chkE C sc a z && nStar z
    | _ => false)
  | sc, .rng2 a b, e => (match e with
    | .Call (.Name y _) [z, z'] [] _ => decide (y = "range") && glB sc y && C.bl.contains y && chkE C sc a z && nStar z && chkE C sc b z' && nStar z'
    | _ => false)
  | sc, .rng3 a b c, e => (match e with
    | .Call (.Name y _) [z, z', z''] [] _ => decide (y = "range") && glB sc y && C.bl.contains y && chkE C sc a z && nStar z && chkE C sc b z' && nStar z' && chkE C sc c z'' && nStar z''
    | _ => false)
  | sc, .enum a, e => (match e with
    | .Call (.Name y _) [z] [] _ => decide (y = "enumerate") && glB sc y && C.bl.contains y && chkE C sc a z && nStar z
    | _ => false)
  | sc, .zip a b, e => (match e with
    | .Call (.Name y _) [z, z'] [] _ => decide (y = "zip") && glB sc y && C.bl.contains y && chkE C sc a z && nStar z && chkE C sc b z' && nStar z'
    | _ => false)
end
end G3
set_option Elab.async false
set_option linter.all false
set_option maxRecDepth 100000
set_option maxHeartbeats 8000000
namespace G3
open PySem PySem.Spec PyProof.Rows L2
mutual
def callsE : E → List (String × Sp3)
  | .v _ | .c _ | .dic0 => []
  | .tup es | .lst es | .and es | .or es => callsEL es
  | .bin _ a b | .cmp _ a b | .ix a b => callsE a ++ callsE b
  | .neg a | .not a | .rev a | .lrg a => callsE a
  | .isi a _ => callsE a
  | .chain _ _ a b c => callsE a ++ (callsE b ++ callsE c)
  | .ite a b c => callsE a ++ (callsE b ++ callsE c)
  | .sl a lo hi => callsE a ++ (callsO lo ++ callsO hi)
  | .call x sp es => (x, sp) :: callsEL es
  | .bi _ es => callsEL es
  | .me _ o es => callsE o ++ callsEL es
  | .lc _ _ it t e => callsI it ++ (callsO t ++ callsE e)
  | .lc2 _ _ it _ _ it1 e => callsI it ++ (callsI it1 ++ callsE e)
  | .dc _ _ it t k e => callsI it ++ (callsO t ++ (callsE k ++ callsE e))
def callsEL : EL → List (String × Sp3)
  | .nil => []
  | .cons e es => callsE e ++ callsEL es
def callsO : EO → List (String × Sp3)
  | .no => []
  | .ex e => callsE e
def callsI : It3 → List (String × Sp3)
  | .seq a | .rng1 a | .enum a => callsE a
  | .rng2 a b | .zip a b => callsE a ++ callsE b
  | .rng3 a b c => callsE a ++ (callsE b ++ callsE c)
end
def GoodAll (X : Cx) (l : List (String × Sp3)) : Prop := ∀ p ∈ l, Good X p.1 p.2
theorem GoodAll.l {X : Cx} {l m : List (String × Sp3)} (h : GoodAll X (l ++ m)) : GoodAll X l := fun p hp => h p (List.mem_append_left _ hp)
theorem GoodAll.r {X : Cx} {l m : List (String × Sp3)} (h : GoodAll X (l ++ m)) : GoodAll X m := fun p hp => h p (List.mem_append_right _ hp)
theorem GoodAll.hd {X : Cx} {p : String × Sp3} {m : List (String × Sp3)} (h : GoodAll X (p :: m)) : Good X p.1 p.2 := h p List.mem_cons_self
theorem GoodAll.tl {X : Cx} {p : String × Sp3} {m : List (String × Sp3)} (h : GoodAll X (p :: m)) : GoodAll X m := fun q hq => h q (List.mem_cons_of_mem _ hq)
structure Cq (X : Cx) (C : Ck) (sc : Scope) : Prop where
  n : X.N = C.N
  hs : X.env.scope = sc
  nd : C.N.Nodup
  calm : X.calm = true
  hu : X.A.units + 64 < cLine
  bl : ∀ x ∈ C.bl, X.mg x = none
  im : ∀ p ∈ C.im, X.mg p.1 = some (.builtin p.2)
  kind : sc.kind = .function
  xe : X.xe = fun _ _ => False
section
variable {X : Cx} {C : Ck} {sc : Scope}
theorem Cq.vis (cx : Cq X C sc) {x : Str} (h : visB sc x = true) : Vis X.env.scope x := by rw [cx.hs]; exact visB_ok h
theorem Cq.gl (cx : Cq X C sc) {x : Str} (h : glB sc x = true) : Gl X x := by
  have e : sc.names.lookup x = some .globalImplicit := of_decide_eq_true h
  show X.env.scope.names.lookup x = some .globalImplicit
  rw [cx.hs]; exact e
theorem Cq.hp (cx : Cq X C sc) : PassesOwn (model X.prog X.w) X.A X.env X.xe := by rw [cx.xe]; exact PassesOwn.never
theorem okName_ok {x : Str} (h : okName x = true) : (x == ("__debug__" : Str)) = false ∧ (x == ("__classdict__" : Str)) = false ∧ x ≠ "__name__" := by
  unfold okName at h
  simp only [Bool.and_eq_true, Bool.not_eq_true'] at h
  exact ⟨h.1.1, h.1.2, fun e => by rw [e] at h; have := h.2; simp at this⟩
theorem lookup_rel {scope sc : Scope} {x : Str} {k : NameKind} (hk : k ≠ .free) (h : scope.names.lookup x = some k) : (relB scope sc).names.lookup x = some k := by
  unfold relB
  dsimp only
  generalize scope.names = l at h
  induction l with
  | nil => simp at h
  | cons p r ih =>
    obtain ⟨n, k'⟩ := p
    rw [List.map_cons]
    rw [List.lookup_cons] at h
    cases e : x == n with
    | true =>
      rw [e] at h
      cases h
      have : (k == NameKind.free && sc.kind == ScopeKind.function && List.lookup n sc.names == some NameKind.cell) = false := by
        cases k <;> first | rfl | exact absurd rfl hk
      dsimp only
      rw [this]
      simp [List.lookup_cons, e]
    | false =>
      rw [e] at h
      dsimp only at h ⊢
      by_cases c : (k' == NameKind.free && sc.kind == ScopeKind.function && List.lookup n sc.names == some NameKind.cell) = true
      · rw [if_pos c]; simp only [List.lookup_cons, e]; exact ih h
      · rw [if_neg c]; simp only [List.lookup_cons, e]; exact ih h
/-- what may be stored to -/
def LocOk (X : Cx) (ss : Scope) : Prop := ∀ x, locB ss x = true → Loc X.env.scope x ∧ (X.fn x = true ∨ X.env.scope.names.lookup x = some .local)
theorem assignEach1 {e : Expr} {es : List Expr} {env : Env} (h : nStar e = true) : assignEach (e :: es) env = (false, assign e env) :: assignEach es env := by
  cases e <;> first | rfl | cases h
theorem chkTns_star {N : List Str} {ss : Scope} : ∀ {ts : TnL} {es : List Expr}, chkTns N ss ts es = true → (∀ env : Env, (assignEach es env).length = lenN ts ∧ (assignEach es env).findIdx? (·.1) = none)
  | .nil, es, h => by
    unfold chkTns at h
    cases es with
    | nil => exact fun env => ⟨rfl, rfl⟩
    | cons _ _ => cases h
  | .cons t ts, [], h => by cases h
  | .cons t ts, e :: es, h => by
    unfold chkTns at h
    simp only [Bool.and_eq_true] at h
    obtain ⟨⟨h1, h2⟩, h3⟩ := h
    intro env
    obtain ⟨e1, e2⟩ := chkTns_star h3 env
    rw [assignEach1 h1]
    exact ⟨by rw [List.length_cons, e1]; rfl, by rw [List.findIdx?_cons]; simp [e2]⟩
mutual
theorem sndTn (hN : X.N = C.N) (nd : C.N.Nodup) (hc : X.calm = true) {ss : Scope} (lo : LocOk X ss) : ∀ (t : Tn) (e : Expr), chkTn C.N ss t e = true → PG X e (gOf X.K t)
  | .nm i, e, h => by
    unfold chkTn at h
    split at h
    · rename_i x p
      rw [Bool.and_eq_true] at h
      obtain ⟨h1, h2⟩ := h
      obtain ⟨l1, l2⟩ := lo x h2
      exact pg_name (by rw [hN]; exact nd) (by rw [hN]; exact of_decide_eq_true h1) l1 l2
    · cases h
  | .tup ts, e, h => by
    unfold chkTn at h
    split at h
    · rename_i es k p
      exact pg_tup hc (sndTns hN nd hc lo ts es h) (chkTns_star h X.env).1 (chkTns_star h X.env).2
    · cases h
theorem sndTns (hN : X.N = C.N) (nd : C.N.Nodup) (hc : X.calm = true) {ss : Scope} (lo : LocOk X ss) : ∀ (ts : TnL) (es : List Expr), chkTns C.N ss ts es = true → PGs X es (gsOf X.K ts)
  | .nil, es, h => by
    unfold chkTns at h
    cases es with
    | nil => exact pgs_nil
    | cons _ _ => cases h
  | .cons t ts, [], h => by cases h
  | .cons t ts, e :: es, h => by
    unfold chkTns at h
    simp only [Bool.and_eq_true] at h
    obtain ⟨⟨h1, h2⟩, h3⟩ := h
    exact pgs_cons (sndTn hN nd hc lo t e h2) (sndTns hN nd hc lo ts es h3) (by rw [assignEach1 h1]; rfl)
end
theorem chkEL_star : ∀ {es : EL} {xs : List Expr}, chkEL C sc es xs = true → xs.all nStar = true
  | .nil, xs, h => by
    unfold chkEL at h
    cases xs with
    | nil => rfl
    | cons _ _ => cases h
  | .cons e es, [], h => rfl
  | .cons e es, x :: xs, h => by
    unfold chkEL at h
    simp only [Bool.and_eq_true] at h
    rw [List.all_cons, h.1.1, chkEL_star h.2]; rfl
end
end G3
set_option Elab.async false
set_option linter.all false
set_option maxRecDepth 100000
set_option maxHeartbeats 16000000
namespace G3
open PySem PySem.Spec PyProof.Rows L2
theorem boot_fn : ∀ (b : Bi) (id : String), b.k = .fn id → bootBuiltins b.nm = some (.builtin id)
  | .len, _, h => by cases h; decide +kernel
  | .abs, _, h => by cases h; decide +kernel
  | .max1, _, h => by cases h; decide +kernel
  | .max2, _, h => by cases h; decide +kernel
  | .min1, _, h => by cases h; decide +kernel
  | .min2, _, h => by cases h; decide +kernel
  | .sum, _, h => by cases h; decide +kernel
  | .sorted, _, h => by cases h; decide +kernel
  | .all, _, h => by cases h; decide +kernel
  | .any, _, h => by cases h; decide +kernel
  | .int, _, h | .list, _, h | .tuple, _, h | .gcd, _, h | .lcm, _, h | .isi _, _, h => by cases h
theorem boot_ty : ∀ (b : Bi) (id : String), b.k = .ty id → bootBuiltins b.nm = some (.type id)
  | .int, _, h => by cases h; decide +kernel
  | .list, _, h => by cases h; decide +kernel
  | .tuple, _, h => by cases h; decide +kernel
  | .len, _, h | .abs, _, h | .max1, _, h | .max2, _, h | .min1, _, h | .min2, _, h | .sum, _, h | .sorted, _, h | .all, _, h | .any, _, h | .gcd, _, h | .lcm, _, h | .isi _, _, h => by cases h
theorem bi_name : ∀ b : Bi, b.nm ≠ "__name__" ∧ (b.nm == ("__debug__" : Str)) = false
  | .len | .abs | .int | .max1 | .max2 | .min1 | .min2 | .sum | .sorted | .list | .tuple | .all | .any | .gcd | .lcm => by decide +kernel
  | .isi _ => (by decide +kernel : (Str.ofString "isinstance") ≠ "__name__" ∧ (Str.ofString "isinstance" == ("__debug__" : Str)) = false)
theorem boot_is : bootBuiltins "isinstance" = some (.builtin "isinstance") := by decide +kernel
theorem boot_ask : ∀ t ∈ askTy, bootBuiltins (Str.ofString t) = some (.type t) ∧ Str.ofString t ≠ "__name__" ∧ (Str.ofString t == ("__debug__" : Str)) = false := by decide +kernel
section
variable {X : Cx} {C : Ck} {sc : Scope}
theorem bi_fn (cx : Cq X C sc) : ∀ (b : Bi) (id : String), b.k = .fn id → CallR X (.builtin id) (liftC X.K (bi3 b))
  | .len, _, h => by cases h; exact len_ok
  | .abs, _, h => by cases h; exact abs_ok
  | .max1, _, h => by cases h; exact max1_ok cx.calm
  | .max2, _, h => by cases h; exact max2_ok cx.calm
  | .min1, _, h => by cases h; exact min1_ok cx.calm
  | .min2, _, h => by cases h; exact min2_ok cx.calm
  | .sum, _, h => by cases h; exact sum_ok cx.calm
  | .sorted, _, h => by cases h; exact sorted_ok
  | .all, _, h => by cases h; exact all_ok cx.calm
  | .any, _, h => by cases h; exact any_ok cx.calm
  | .int, _, h | .list, _, h | .tuple, _, h | .gcd, _, h | .lcm, _, h | .isi _, _, h => by cases h
theorem bi_ty (cx : Cq X C sc) : ∀ (b : Bi) (id : String), b.k = .ty id → CallR X (.type id) (liftC X.K (bi3 b))
  | .int, _, h => by cases h; exact int_ok
  | .list, _, h => by cases h; exact list_ok cx.calm
  | .tuple, _, h => by cases h; exact tuple_ok
  | .len, _, h | .abs, _, h | .max1, _, h | .max2, _, h | .min1, _, h | .min2, _, h | .sum, _, h | .sorted, _, h | .all, _, h | .any, _, h | .gcd, _, h | .lcm, _, h | .isi _, _, h => by cases h
theorem bi_im (cx : Cq X C sc) : ∀ (b : Bi) (id : String), b.k = .im id → CallR X (.builtin id) (liftC X.K (bi3 b))
  | .gcd, _, h => by cases h; exact gcd_ok
  | .lcm, _, h => by cases h; exact lcm_ok
  | .len, _, h | .abs, _, h | .max1, _, h | .max2, _, h | .min1, _, h | .min2, _, h | .sum, _, h | .sorted, _, h | .all, _, h | .any, _, h | .int, _, h | .list, _, h | .tuple, _, h | .isi _, _, h => by cases h
theorem Me.slot : ∀ m : Me, PlainAttrs m.ty ∧ PySem.Slot m.ty m.nm m.id ∧ typeOf (.builtin m.id) = pure (.type "method_descriptor")
  | .append => ⟨PySem.F.plainAttrs_list, PySem.F.slot_list_append, PySem.F.type_list_append⟩
  | .extend => ⟨PySem.F.plainAttrs_list, PySem.F.slot_list_extend, PySem.F.type_list_extend⟩
  | .pop => ⟨PySem.F.plainAttrs_list, PySem.F.slot_list_pop, PySem.F.type_list_pop⟩
  | .popAt => ⟨PySem.F.plainAttrs_list, PySem.F.slot_list_pop, PySem.F.type_list_pop⟩
  | .reverse => ⟨PySem.F.plainAttrs_list, PySem.F.slot_list_reverse, PySem.F.type_list_reverse⟩
  | .insert => ⟨PySem.F.plainAttrs_list, PySem.F.slot_list_insert, PySem.F.type_list_insert⟩
  | .index => ⟨PySem.F.plainAttrs_list, PySem.F.slot_list_index, PySem.F.type_list_index⟩
  | .get1 => ⟨PySem.F.plainAttrs_dict, PySem.F.slot_dict_get, PySem.F.type_dict_get⟩
  | .get2 => ⟨PySem.F.plainAttrs_dict, PySem.F.slot_dict_get, PySem.F.type_dict_get⟩
theorem chkC_ok {d : D} {k : Const} {n : Nat} {pos : Pos} (h : chkC d k = true) : PE X (.Constant k n pos) (lift X.K fun τ M Q => Q d M) := by
  unfold chkC at h
  split at h
  · exact PEw pe_non fun σ H Q ⟨τ, M, Q3, hr, sl, h, L⟩ => L.here hr .non h
  · rename_i b b'
    have e : b = b' := beq_iff_eq.mp h
    subst e
    exact PEw pe_bl fun σ H Q ⟨τ, M, Q3, hr, sl, h, L⟩ => L.here hr (.bl b) h
  · rename_i b b'
    have e : b = b' := beq_iff_eq.mp h
    subst e
    exact PEw pe_int fun σ H Q ⟨τ, M, Q3, hr, sl, h, L⟩ => L.here hr (.int b) h
  · rename_i b b'
    have e : b = b' := eq_of_beq h
    subst e
    exact PEw pe_str fun σ H Q ⟨τ, M, Q3, hr, sl, h, L⟩ => L.here hr (.str b) h
  · cases h
theorem le_var {i : Nat} {x : Str} {pos : Pos} (hN : X.N[i]? = some x) (hv : Vis X.env.scope x) (hd : (x == ("__debug__" : Str)) = false) (hcd : (x == ("__classdict__" : Str)) = false) :
    PE X (.Name x pos) (lift X.K fun τ M Q => some3 τ[i]? fun o => some3 o fun d => Q d M) := PEw (pe_var hN hv hd hcd) fun σ H Q ⟨τ, M, Q3, hr, sl, h, L⟩ => by
  obtain ⟨o, e1, h⟩ := some3_inv h
  obtain ⟨d, rfl, h⟩ := some3_inv h
  obtain ⟨v, ev, rv⟩ := sl.get e1
  exact ⟨v, ev, L.here hr rv h⟩
theorem rgV_ok {K : PySem.W.Frag} {H : Hp} : ∀ (n : Nat), Reps K H (rgV 0 (n : Int)) (rgD 0 1 n) := by
  intro n
  unfold rgV rgD
  rw [show ((n : Int) - 0).toNat = n by omega]
  generalize List.range n = l
  induction l with
  | nil => exact .nil
  | cons k l ih =>
    rw [List.map_cons, List.map_cons]
    refine .cons ?_ ih
    rw [Int.mul_one]
    exact .int _
theorem le_lrg {a : Expr} {ta : TE3} {p p' p'' pos : Pos} (hc : X.calm = true) (hg : Gl X "list") (hm : X.mg "list" = none) (hg' : Gl X "range") (hm' : X.mg "range" = none) (ha : PE X a (lift X.K ta)) (na : starEach [a] X.env = (false, eval a X.env) :: starEach [] X.env) :
    PE X (.Call (.Name "list" p) [.Call (.Name "range" p') [a] [] p''] [] pos) (lift X.K fun τ M Q => ta τ M fun d M1 => isI d fun i => i ≤ 16777216 ∧ -16777216 ≤ i ∧ newL (rgD 0 1 i.toNat) M1 Q) :=
  PEw (pe_listRg hc hg hm (prg_1 hg' hm' ha na)) fun σ H Q ⟨τ, M, Q3, hr, sl, h, L⟩ => by
    refine ⟨τ, M, _, hr, sl, h, fun v H1 d M1 h1 g1 hr1 r1 => ?_⟩
    obtain ⟨i, rfl, h2, h3, h4⟩ := isI_inv h1
    cases r1
    refine ⟨i, rfl, ⟨by omega, by omega, by omega, by omega, by omega⟩, ?_⟩
    have e : rgV 0 i = rgV 0 (i.toNat : Int) := by
      unfold rgV
      rw [show (i - 0).toNat = ((i.toNat : Int) - 0).toNat by omega]
    rw [e]
    exact newL_ok hr1 (rgV_ok _) h4 (L.from g1)
theorem le_isi2 {t t' : String} {x y y' : Str} {p p1 p2 p3 pos : Pos} {k : Nat} {a : Expr} {ta : TE3} (ht : t ∈ askTy) (ht' : t' ∈ askTy) (hx : x = Str.ofString "isinstance") (hy : y = Str.ofString t) (hy' : y' = Str.ofString t') (ha : PE X a (lift X.K ta)) (hg : Gl X x) (hm : X.mg x = none) (hgy : Gl X y) (hmy : X.mg y = none) (hgy' : Gl X y') (hmy' : X.mg y' = none)
    (hv : bootBuiltins x = some (.builtin "isinstance")) (hvy : bootBuiltins y = some (.type t)) (hvy' : bootBuiltins y' = some (.type t')) (hn : x ≠ "__name__") (hdb : (x == ("__debug__" : Str)) = false) (hny : y ≠ "__name__") (hdby : (y == ("__debug__" : Str)) = false) (hny' : y' ≠ "__name__") (hdby' : (y' == ("__debug__" : Str)) = false)
    (he : starEach [a, .Tuple [.Name y p1, .Name y' p2] k p3] X.env = (false, eval a X.env) :: starEach [.Tuple [.Name y p1, .Name y' p2] k p3] X.env) :
    PE X (.Call (.Name x p) [a, .Tuple [.Name y p1, .Name y' p2] k p3] [] pos) (lift X.K fun τ M Q => ta τ M fun d M1 => some3 (tyName d M1) fun z => Q (.bl ([t, t'].any fun T => isTy z T)) M1) := by
  have n1 : PE X (.Name y p1) (tC (.ty t)) := pe_bltn hgy hmy hvy rfl hny hdby
  have n2 : PE X (.Name y' p2) (tC (.ty t')) := pe_bltn hgy' hmy' hvy' rfl hny' hdby'
  refine PEw (pe_callB call_isiT hg hm hv (pa_cons ha (pa_cons (pe_tup (pa_cons n1 (pa_cons n2 pa_nil))) pa_nil) he) hn hdb he rfl) fun σ H Q ⟨τ, M, Q3, hr, sl, h, L⟩ => ?_
  refine ⟨τ, M, _, hr, sl, h, fun v H1 d M1 h1 g1 hr1 r1 => ?_⟩
  obtain ⟨z, ez, q⟩ := some3_inv h1
  refine ⟨by show 2 ≤ sizeLine; decide, fun T nT => ?_⟩
  have g2 : Grow X.K H1 (upd H1 T (.tup [.ty t, .ty t'])) := .new nT
  have hr2 := hr1.upd g2 (hr1.none nT)
  refine ⟨v, T, [.ty t, .ty t'], .type z, [.type t, .type t'], [t, t'].any fun T => isTy z T, rfl, upd_same, .cons (.ty _) (.cons (.ty _) .nil), tyX_ok hr2 (Rep.mono g2 d r1) ez, ?_, L _ _ _ _ q (g1.trans g2) hr2 (.bl _)⟩
  refine kitAny_ok (ts := [t, t']) (tyName_in ez) fun T hT => ?_
  rcases List.mem_cons.mp hT with rfl | hT
  · exact ht
  · rcases List.mem_cons.mp hT with rfl | hT
    · exact ht'
    · cases hT
theorem le_dic0 {pos : Pos} : PE X (.Dict [] [] pos) (lift X.K fun τ M Q => ∀ p, M p = none → Q (.ref p) (put M p (.dic []))) := PEw pe_dnewK fun σ H Q ⟨τ, M, Q3, hr, sl, h, L⟩ p np =>
  L _ _ _ _ (h p (hr.none np)) (.new np) (hr.put (.new np) ⟨_, upd_same, .nil⟩) (.ref p)
theorem le_one {op : BoolOp} {a : Expr} {ta : TE3} {pos : Pos} (ha : PE X a (lift X.K ta)) : PE X (.BoolOp op [a] pos) (lift X.K ta) := pe_one ha
/-- the context within a comprehension -/
theorem Cq.blk (cx : Cq X C sc) {scope : Scope} (hk : scope.kind = .function) (s : Shared) (H : Hp) (Cc : Addr) (cl : List (Str × Addr)) (fp : List Addr) : Cq (X.blk s H scope (compEnvC scope cl Cc X.env) fp) C (relB scope sc) :=
  ⟨cx.n, by rw [← cx.hs]; rfl, cx.nd, cx.calm, cx.hu, cx.bl, cx.im, hk, rfl⟩
theorem loc_blk (cx : Cq X C sc) {scope : Scope} (s : Shared) (H : Hp) (Cc : Addr) (cl : List (Str × Addr)) (fp : List Addr) : LocOk (X.blk s H scope (compEnvC scope cl Cc X.env) fp) scope := by
  intro x h
  have e : (X.blk s H scope (compEnvC scope cl Cc X.env) fp).env.scope = relB scope sc := by rw [← cx.hs]; rfl
  unfold locB at h
  split at h
  · rename_i hl
    have q := lookup_rel (sc := sc) (by decide) hl
    exact ⟨.inl (by rw [e]; exact q), .inr (by rw [e]; exact q)⟩
  · rename_i hl
    have q := lookup_rel (sc := sc) (by decide) hl
    refine ⟨.inr (by rw [e]; exact q), .inl ?_⟩
    show (scope.names.lookup x == some .cell) = true
    rw [hl]; rfl
  · cases h
theorem Good.blk {x : String} {sp : Sp3} {scope : Scope} {s : Shared} {H : Hp} {env : Env} {fp : List Addr} (g : Good X x sp) : Good (X.blk s H scope env fp) x sp := g
end
end G3
set_option Elab.async false
set_option linter.all false
set_option maxRecDepth 100000
set_option maxHeartbeats 16000000
namespace G3
open PySem PySem.Spec PyProof.Rows L2
mutual
theorem sndE {C : Ck} : ∀ (q : E) {X : Cx} {sc : Scope} (e : Expr), Cq X C sc → chkE C sc q e = true → GoodAll X (callsE q) → PE X e (lift X.K (wpE q))
  | .v i, X, sc, e, cx, h, g => by
    unfold chkE at h
    split at h
    · simp only [Bool.and_eq_true, decide_eq_true_eq] at h
      obtain ⟨⟨h1, h2⟩, h3⟩ := h
      obtain ⟨o1, o2, o3⟩ := okName_ok h3
      exact le_var (by rw [cx.n]; exact h1) (cx.vis h2) o1 o2
    · cases h
  | .c d, X, sc, e, cx, h, g => by
    unfold chkE at h
    split at h
    · exact chkC_ok h
    · cases h
  | .tup es, X, sc, e, cx, h, g => by
    unfold chkE at h
    split at h
    · rename_i xs k p
      simp only [Bool.and_eq_true, decide_eq_true_eq] at h
      exact le_tup (sndEL es xs cx h.1 g) (Nat.le_trans h.2 (by decide))
    · cases h
  | .lst es, X, sc, e, cx, h, g => by
    unfold chkE at h
    split at h
    · rename_i xs p
      simp only [Bool.and_eq_true, decide_eq_true_eq] at h
      exact le_lst (sndEL es xs cx h.1 g) (Nat.le_trans h.2 (by decide))
    · cases h
  | .bin o a b, X, sc, e, cx, h, g => by
    unfold chkE at h
    split at h
    · simp only [Bool.and_eq_true, decide_eq_true_eq] at h
      obtain ⟨⟨h1, h2⟩, h3⟩ := h
      subst h1
      exact le_bin (bin_ok o) (sndE a _ cx h2 g.l) (sndE b _ cx h3 g.r)
    · cases h
  | .neg a, X, sc, e, cx, h, g => by
    unfold chkE at h
    split at h
    · exact le_un (r := neg3) neg_ok (sndE a _ cx h g)
    · cases h
  | .cmp o a b, X, sc, e, cx, h, g => by
    unfold chkE at h
    split at h
    · simp only [Bool.and_eq_true, decide_eq_true_eq] at h
      obtain ⟨⟨⟨h1, h2⟩, h3⟩, h4⟩ := h
      subst h1
      exact le_cmp (cmp_ok cx.hu o) (sndE a _ cx h2 g.l) (sndE b _ cx h3 g.r) (mark_ok h4)
    · cases h
  | .chain o o' a b c, X, sc, e, cx, h, g => by
    unfold chkE at h
    split at h
    · simp only [Bool.and_eq_true, decide_eq_true_eq] at h
      obtain ⟨⟨⟨⟨⟨h1, h2⟩, h3⟩, h4⟩, h5⟩, h6⟩ := h
      subst h1 h2
      exact le_chain (cmp_ok cx.hu o) (cmp_ok cx.hu o') (sndE a _ cx h3 g.l) (sndE b _ cx h4 g.r.l) (sndE c _ cx h5 g.r.r) (mark_ok h6)
    · cases h
  | .and es, X, sc, e, cx, h, g => by
    unfold chkE at h
    split at h
    · rename_i xs p
      simp only [Bool.and_eq_true, Bool.not_eq_true'] at h
      exact sndAnd es xs p cx h.1 h.2 g
    · cases h
  | .or es, X, sc, e, cx, h, g => by
    unfold chkE at h
    split at h
    · rename_i xs p
      simp only [Bool.and_eq_true, Bool.not_eq_true'] at h
      exact sndOr es xs p cx h.1 h.2 g
    · cases h
  | .not a, X, sc, e, cx, h, g => by
    unfold chkE at h
    split at h
    · exact le_not (sndE a _ cx h g)
    · cases h
  | .ite t a b, X, sc, e, cx, h, g => by
    unfold chkE at h
    split at h
    · simp only [Bool.and_eq_true] at h
      obtain ⟨⟨h1, h2⟩, h3⟩ := h
      exact le_ite (sndT t _ cx h1 g.l) (sndE a _ cx h2 g.r.l) (sndE b _ cx h3 g.r.r)
    · cases h
  | .ix a b, X, sc, e, cx, h, g => by
    unfold chkE at h
    split at h
    · simp only [Bool.and_eq_true] at h
      obtain ⟨⟨h1, h2⟩, h3⟩ := h
      exact le_ix cx.hu (sndE a _ cx h1 g.l) (sndE b _ cx h2 g.r) (plain_ix h3)
    · cases h
  | .sl a lo hi, X, sc, e, cx, h, g => by
    unfold chkE at h
    split at h
    · simp only [Bool.and_eq_true] at h
      obtain ⟨⟨h1, h2⟩, h3⟩ := h
      exact le_sl (sndE a _ cx h1 g.l) (sndO lo _ cx h2 g.r.l) (sndO hi _ cx h3 g.r.r)
    · cases h
  | .rev a, X, sc, e, cx, h, g => by
    unfold chkE at h
    split at h
    · exact le_rev (sndE a _ cx h g)
    · cases h
  | .call f sp es, X, sc, e, cx, h, g => by
    unfold chkE at h
    split at h
    · rename_i x p xs pos
      simp only [Bool.and_eq_true, decide_eq_true_eq] at h
      obtain ⟨⟨⟨h1, h2⟩, h3⟩, h4⟩ := h
      subst h1
      obtain ⟨o1, o2, o3⟩ := okName_ok h3
      have st := chkEL_star h4
      cases xs with
      | nil =>
        cases es with
        | nil => exact le_call0 g.hd (cx.gl h2) o1
        | cons _ _ => unfold chkEL at h4; cases h4
      | cons y ys =>
        rw [List.all_cons, Bool.and_eq_true] at st
        exact le_call g.hd (cx.gl h2) (sndEL es (y :: ys) cx h4 g.tl) o1 (star1 st.1) (starAny st.2)
    · cases h
  | .bi b es, X, sc, e, cx, h, g => by
    unfold chkE at h
    split at h
    · rename_i x p xs pos
      simp only [Bool.and_eq_true, decide_eq_true_eq, Bool.not_eq_true'] at h
      obtain ⟨⟨⟨⟨h1, h2⟩, h3⟩, h4⟩, h5⟩ := h
      subst h1
      have st := chkEL_star h3
      obtain ⟨o1, o2⟩ := bi_name b
      cases xs with
      | nil => cases h4
      | cons y ys =>
        rw [List.all_cons, Bool.and_eq_true] at st
        have A := sndEL es (y :: ys) cx h3 g
        split at h5
        · rename_i id hk
          exact le_bi (bi_fn cx b id hk) (cx.gl h2) (cx.bl _ (List.contains_iff_mem.mp h5)) (boot_fn b id hk) A o1 o2 (star1 st.1) (starAny st.2)
        · rename_i id hk
          exact le_biT (bi_ty cx b id hk) (cx.gl h2) (cx.bl _ (List.contains_iff_mem.mp h5)) (boot_ty b id hk) A o1 o2 (star1 st.1) (starAny st.2)
        · rename_i id hk
          exact le_biF (bi_im cx b id hk) (cx.gl h2) (cx.im _ (List.contains_iff_mem.mp h5)) A o2 (star1 st.1) (starAny st.2)
        · cases h5
    · cases h
  | .isi a ts, X, sc, e, cx, h, g => by
    unfold chkE at h
    split at h
    · rename_i x p y z p1 pos
      simp only [Bool.and_eq_true, decide_eq_true_eq] at h
      obtain ⟨⟨⟨⟨⟨h1, h2⟩, h3⟩, h4⟩, h5⟩, h6⟩ := h
      subst h1
      split at h6
      · rename_i t
        simp only [Bool.and_eq_true, decide_eq_true_eq] at h6
        obtain ⟨⟨⟨k1, k2⟩, k3⟩, k4⟩ := h6
        obtain ⟨b1, b2, b3⟩ := boot_ask t (List.contains_iff_mem.mp k2)
        subst k1
        exact le_isi1 (List.contains_iff_mem.mp k2) rfl rfl (sndE a _ cx h4 g) (cx.gl h2) (cx.bl _ (List.contains_iff_mem.mp h3)) (cx.gl k3) (cx.bl _ (List.contains_iff_mem.mp k4)) boot_is b1 (by decide) (by decide) b2 b3 (star1 h5)
      · cases h6
    · rename_i x p y z p1 z' p2 k p3 pos
      simp only [Bool.and_eq_true, decide_eq_true_eq] at h
      obtain ⟨⟨⟨⟨⟨h1, h2⟩, h3⟩, h4⟩, h5⟩, h6⟩ := h
      subst h1
      split at h6
      · rename_i t t'
        simp only [Bool.and_eq_true, decide_eq_true_eq] at h6
        obtain ⟨⟨⟨⟨⟨⟨⟨k1, k2⟩, k3⟩, k4⟩, k5⟩, k6⟩, k7⟩, k8⟩ := h6
        obtain ⟨b1, b2, b3⟩ := boot_ask t (List.contains_iff_mem.mp k2)
        obtain ⟨c1, c2, c3⟩ := boot_ask t' (List.contains_iff_mem.mp k6)
        subst k1 k5
        exact le_isi2 (List.contains_iff_mem.mp k2) (List.contains_iff_mem.mp k6) rfl rfl rfl (sndE a _ cx h4 g) (cx.gl h2) (cx.bl _ (List.contains_iff_mem.mp h3)) (cx.gl k3) (cx.bl _ (List.contains_iff_mem.mp k4)) (cx.gl k7) (cx.bl _ (List.contains_iff_mem.mp k8)) boot_is b1 c1 (by decide) (by decide) b2 b3 c2 c3 (star1 h5)
      · cases h6
    · cases h
  | .lrg a, X, sc, e, cx, h, g => by
    unfold chkE at h
    split at h
    · simp only [Bool.and_eq_true, decide_eq_true_eq] at h
      obtain ⟨⟨⟨⟨⟨⟨⟨h1, h2⟩, h3⟩, h4⟩, h5⟩, h6⟩, h7⟩, h8⟩ := h
      subst h1 h4
      exact le_lrg cx.calm (cx.gl h2) (cx.bl _ (List.contains_iff_mem.mp h3)) (cx.gl h5) (cx.bl _ (List.contains_iff_mem.mp h6)) (sndE a _ cx h7 g) (star1 h8)
    · cases h
  | .me m o es, X, sc, e, cx, h, g => by
    unfold chkE at h
    split at h
    · rename_i x nm ap xs p
      simp only [Bool.and_eq_true, decide_eq_true_eq] at h
      obtain ⟨⟨⟨⟨⟨h1, h2⟩, h3⟩, h4⟩, h5⟩, h6⟩ := h
      subst h1
      have st := chkEL_star h3
      obtain ⟨s1, s2, s3⟩ := m.slot
      cases xs with
      | nil =>
        cases es with
        | nil => exact le_me0 s1 s2 s3 (me_ok cx.hu m) (sndE o _ cx h2 g.l) (base_ok h4) h5
        | cons _ _ => unfold chkEL at h3; cases h3
      | cons y ys =>
        have st2 := st
        rw [List.all_cons, Bool.and_eq_true] at st
        exact le_me s1 s2 s3 (me_ok cx.hu m) (sndE o _ cx h2 g.l) (sndEL es (y :: ys) cx h3 g.r) (base_ok h4) (few_ok st2 h6) h5 (star1 st.1) (starAny st.2)
    · cases h
  | .lc own tn it t b, X, sc, e, cx, h, g => by
    unfold chkE at h
    split at h
    · rename_i elt tg iter ifs scope pos
      simp only [Bool.and_eq_true] at h
      obtain ⟨⟨⟨⟨⟨⟨⟨h1, h2⟩, h3⟩, h4⟩, h5⟩, h6⟩, h7⟩, h8⟩ := h
      have ok : BlkOk X.N X.env.scope scope (strN own) := by rw [cx.n, cx.hs]; exact blkOk_by h1
      have hw : (strN own).map (·.2) = own.map (·.2) := by unfold strN; rw [List.map_map]; rfl
      have R := le_lc (own := strN own) (pos := pos) cx.calm (by rw [cx.n]; exact cx.nd) (sndI it tg iter cx h4 h6 g.l) ok
        (fun s H Cc cl fp => sndTn (cx.blk ok.kind s H Cc cl fp).n cx.nd cx.calm (loc_blk cx s H Cc cl fp) tn tg h2)
        (fun s H Cc cl fp => sndTO t ifs (cx.blk ok.kind s H Cc cl fp) h7 g.r.l)
        (fun s H Cc cl fp => sndE b elt (cx.blk ok.kind s H Cc cl fp) h8 g.r.r) (fold_ok h5) (by rw [hw]; exact h3)
      rw [hw] at R
      exact R
    · cases h
  | .lc2 own tn it vs1 tn1 it1 b, X, sc, e, cx, h, g => by
    unfold chkE at h
    split at h
    · rename_i elt tg iter tg1 iter1 scope pos
      simp only [Bool.and_eq_true] at h
      obtain ⟨⟨⟨⟨⟨⟨⟨⟨⟨⟨⟨⟨h1, h2⟩, h3⟩, h4⟩, h5⟩, h6⟩, k1⟩, k2⟩, k3⟩, k4⟩, k5⟩, k6⟩, k7⟩ := h
      have ok : BlkOk X.N X.env.scope scope (strN own) := by rw [cx.n, cx.hs]; exact blkOk_by h1
      have hw : (strN own).map (·.2) = own.map (·.2) := by unfold strN; rw [List.map_map]; rfl
      have R := le_lc2 (own := strN own) (vs1 := vs1) (pos := pos) cx.calm (by rw [cx.n]; exact cx.nd) (sndI it tg iter cx h4 h6 g.l) ok
        (fun i hi => by rw [hw]; exact List.contains_iff_mem.mp (List.all_eq_true.mp k6 i hi))
        (fun s H Cc cl fp => sndTn (cx.blk ok.kind s H Cc cl fp).n cx.nd cx.calm (loc_blk cx s H Cc cl fp) tn tg h2)
        (fun s H Cc cl fp => sndI it1 tg1 iter1 (cx.blk ok.kind s H Cc cl fp) k3 k5 g.r.l)
        (fun s H Cc cl fp => sndTn (cx.blk ok.kind s H Cc cl fp).n cx.nd cx.calm (loc_blk cx s H Cc cl fp) tn1 tg1 k1)
        (fun s H Cc cl fp => sndE b elt (cx.blk ok.kind s H Cc cl fp) k7 g.r.r) (fold_ok h5) (fun env => fold_ok k4) (by rw [hw]; exact h3) k2
      rw [hw] at R
      exact R
    · cases h
  | .dc own tn it t k b, X, sc, e, cx, h, g => by
    unfold chkE at h
    split at h
    · rename_i kx vx tg iter ifs scope pos
      simp only [Bool.and_eq_true] at h
      obtain ⟨⟨⟨⟨⟨⟨⟨⟨h1, h2⟩, h3⟩, h4⟩, h5⟩, h6⟩, h7⟩, h8⟩, h9⟩ := h
      have ok : BlkOk X.N X.env.scope scope (strN own) := by rw [cx.n, cx.hs]; exact blkOk_by h1
      have hw : (strN own).map (·.2) = own.map (·.2) := by unfold strN; rw [List.map_map]; rfl
      have R := le_dc (own := strN own) (pos := pos) cx.calm (by rw [cx.n]; exact cx.nd) (sndI it tg iter cx h4 h6 g.l) ok
        (fun s H Cc cl fp => sndTn (cx.blk ok.kind s H Cc cl fp).n cx.nd cx.calm (loc_blk cx s H Cc cl fp) tn tg h2)
        (fun s H Cc cl fp => sndTO t ifs (cx.blk ok.kind s H Cc cl fp) h7 g.r.l)
        (fun s H Cc cl fp => sndE k kx (cx.blk ok.kind s H Cc cl fp) h8 g.r.r.l)
        (fun s H Cc cl fp => sndE b vx (cx.blk ok.kind s H Cc cl fp) h9 g.r.r.r) (fold_ok h5) (by rw [hw]; exact h3)
      rw [hw] at R
      exact R
    · cases h
  | .dic0, X, sc, e, cx, h, g => by
    unfold chkE at h
    split at h
    · exact le_dic0
    · cases h
theorem sndEL {C : Ck} : ∀ (q : EL) {X : Cx} {sc : Scope} (xs : List Expr), Cq X C sc → chkEL C sc q xs = true → GoodAll X (callsEL q) → PA X xs (liftA X.K xs.length (wpEL q))
  | .nil, X, sc, xs, cx, h, g => by
    unfold chkEL at h
    cases xs with
    | nil => exact la_nil
    | cons _ _ => cases h
  | .cons e es, X, sc, [], cx, h, g => by cases h
  | .cons e es, X, sc, x :: xs, cx, h, g => by
    unfold chkEL at h
    simp only [Bool.and_eq_true] at h
    obtain ⟨⟨h1, h2⟩, h3⟩ := h
    exact la_cons (sndE e x cx h2 g.l) (sndEL es xs cx h3 g.r) (star1 h1)
theorem sndO {C : Ck} : ∀ (q : EO) {X : Cx} {sc : Scope} (o : Option Expr), Cq X C sc → chkO C sc q o = true → GoodAll X (callsO q) → PO X o (liftO X.K (wpO q))
  | .no, X, sc, o, cx, h, g => by
    unfold chkO at h
    cases o with
    | none => exact lo_none
    | some _ => cases h
  | .ex e, X, sc, o, cx, h, g => by
    unfold chkO at h
    split at h
    · exact lo_some (sndE e _ cx h g)
    · cases h
theorem sndTO {C : Ck} : ∀ (q : EO) {X : Cx} {sc : Scope} (l : List Expr), Cq X C sc → chkTO C sc q l = true → GoodAll X (callsO q) → PTs X l (liftT X.K (wpTO q))
  | .no, X, sc, l, cx, h, g => by
    unfold chkTO at h
    cases l with
    | nil => exact lts_nil
    | cons _ _ => cases h
  | .ex e, X, sc, l, cx, h, g => by
    unfold chkTO at h
    split at h
    · exact pts_one (sndT e _ cx h g)
    · cases h
theorem sndAnd {C : Ck} : ∀ (q : EL) {X : Cx} {sc : Scope} (xs : List Expr) (pos : Pos), Cq X C sc → chkEL C sc q xs = true → xs.isEmpty = false → GoodAll X (callsEL q) → PE X (.BoolOp .And xs pos) (lift X.K (wpAnd q))
  | .nil, X, sc, xs, pos, cx, h, ne, g => by
    unfold chkEL at h
    cases xs with
    | nil => cases ne
    | cons _ _ => cases h
  | .cons e es, X, sc, [], pos, cx, h, ne, g => by cases h
  | .cons e es, X, sc, x :: xs, pos, cx, h, ne, g => by
    unfold chkEL at h
    simp only [Bool.and_eq_true] at h
    obtain ⟨⟨h1, h2⟩, h3⟩ := h
    cases es with
    | nil =>
      unfold chkEL at h3
      cases xs with
      | nil => exact le_one (sndE e x cx h2 g.l)
      | cons _ _ => cases h3
    | cons e' es' =>
      cases xs with
      | nil => unfold chkEL at h3; cases h3
      | cons y ys => exact le_and (sndE e x cx h2 g.l) (sndAnd (.cons e' es') (y :: ys) pos cx h3 rfl g.r)
theorem sndOr {C : Ck} : ∀ (q : EL) {X : Cx} {sc : Scope} (xs : List Expr) (pos : Pos), Cq X C sc → chkEL C sc q xs = true → xs.isEmpty = false → GoodAll X (callsEL q) → PE X (.BoolOp .Or xs pos) (lift X.K (wpOr q))
  | .nil, X, sc, xs, pos, cx, h, ne, g => by
    unfold chkEL at h
    cases xs with
    | nil => cases ne
    | cons _ _ => cases h
  | .cons e es, X, sc, [], pos, cx, h, ne, g => by cases h
  | .cons e es, X, sc, x :: xs, pos, cx, h, ne, g => by
    unfold chkEL at h
    simp only [Bool.and_eq_true] at h
    obtain ⟨⟨h1, h2⟩, h3⟩ := h
    cases es with
    | nil =>
      unfold chkEL at h3
      cases xs with
      | nil => exact le_one (sndE e x cx h2 g.l)
      | cons _ _ => cases h3
    | cons e' es' =>
      cases xs with
      | nil => unfold chkEL at h3; cases h3
      | cons y ys => exact le_or (sndE e x cx h2 g.l) (sndOr (.cons e' es') (y :: ys) pos cx h3 rfl g.r)
theorem sndAndT {C : Ck} : ∀ (q : EL) {X : Cx} {sc : Scope} (xs : List Expr) (pos : Pos), Cq X C sc → chkEL C sc q xs = true → xs.isEmpty = false → GoodAll X (callsEL q) → PW X (.BoolOp .And xs pos) (liftT X.K (wpAndT q))
  | .nil, X, sc, xs, pos, cx, h, ne, g => by
    unfold chkEL at h
    cases xs with
    | nil => cases ne
    | cons _ _ => cases h
  | .cons e es, X, sc, [], pos, cx, h, ne, g => by cases h
  | .cons e es, X, sc, x :: xs, pos, cx, h, ne, g => by
    unfold chkEL at h
    simp only [Bool.and_eq_true] at h
    obtain ⟨⟨h1, h2⟩, h3⟩ := h
    cases es with
    | nil =>
      unfold chkEL at h3
      cases xs with
      | nil => exact lw_and1 (sndT e x cx h2 g.l)
      | cons _ _ => cases h3
    | cons e' es' =>
      cases xs with
      | nil => unfold chkEL at h3; cases h3
      | cons y ys => exact lw_and (sndT e x cx h2 g.l) (sndAndT (.cons e' es') (y :: ys) pos cx h3 rfl g.r)
theorem sndOrT {C : Ck} : ∀ (q : EL) {X : Cx} {sc : Scope} (xs : List Expr) (pos : Pos), Cq X C sc → chkEL C sc q xs = true → xs.isEmpty = false → GoodAll X (callsEL q) → PW X (.BoolOp .Or xs pos) (liftT X.K (wpOrT q))
  | .nil, X, sc, xs, pos, cx, h, ne, g => by
    unfold chkEL at h
    cases xs with
    | nil => cases ne
    | cons _ _ => cases h
  | .cons e es, X, sc, [], pos, cx, h, ne, g => by cases h
  | .cons e es, X, sc, x :: xs, pos, cx, h, ne, g => by
    unfold chkEL at h
    simp only [Bool.and_eq_true] at h
    obtain ⟨⟨h1, h2⟩, h3⟩ := h
    cases es with
    | nil =>
      unfold chkEL at h3
      cases xs with
      | nil => exact lw_or1 (sndT e x cx h2 g.l)
      | cons _ _ => cases h3
    | cons e' es' =>
      cases xs with
      | nil => unfold chkEL at h3; cases h3
      | cons y ys => exact lw_or (sndT e x cx h2 g.l) (sndOrT (.cons e' es') (y :: ys) pos cx h3 rfl g.r)
theorem sndT {C : Ck} : ∀ (q : E) {X : Cx} {sc : Scope} (e : Expr), Cq X C sc → chkE C sc q e = true → GoodAll X (callsE q) → PT X e (liftT X.K (wpT q))
  | .not a, X, sc, e, cx, h, g => by
    unfold chkE at h
    split at h
    · exact lt_not (sndT a _ cx h g)
    · cases h
  | .and es, X, sc, e, cx, h, g => by
    unfold chkE at h
    split at h
    · rename_i xs p
      simp only [Bool.and_eq_true, Bool.not_eq_true'] at h
      exact (sndAndT es xs p cx h.1 h.2 g).pt
    · cases h
  | .or es, X, sc, e, cx, h, g => by
    unfold chkE at h
    split at h
    · rename_i xs p
      simp only [Bool.and_eq_true, Bool.not_eq_true'] at h
      exact (sndOrT es xs p cx h.1 h.2 g).pt
    · cases h
  | .ite t a b, X, sc, e, cx, h, g => by
    unfold chkE at h
    split at h
    · simp only [Bool.and_eq_true] at h
      obtain ⟨⟨h1, h2⟩, h3⟩ := h
      exact lt_ite (sndT t _ cx h1 g.l) (sndT a _ cx h2 g.r.l) (sndT b _ cx h3 g.r.r)
    · cases h
  | .cmp o a b, X, sc, e, cx, h, g => by
    unfold chkE at h
    split at h
    · simp only [Bool.and_eq_true, decide_eq_true_eq] at h
      obtain ⟨⟨⟨h1, h2⟩, h3⟩, h4⟩ := h
      subst h1
      exact lt_cmp (cmp_ok cx.hu o) (sndE a _ cx h2 g.l) (sndE b _ cx h3 g.r) (mark_ok h4)
    · cases h
  | .chain o o' a b c, X, sc, e, cx, h, g => by
    unfold chkE at h
    split at h
    · simp only [Bool.and_eq_true, decide_eq_true_eq] at h
      obtain ⟨⟨⟨⟨⟨h1, h2⟩, h3⟩, h4⟩, h5⟩, h6⟩ := h
      subst h1 h2
      exact lt_chain (cmp_ok cx.hu o) (cmp_ok cx.hu o') (sndE a _ cx h3 g.l) (sndE b _ cx h4 g.r.l) (sndE c _ cx h5 g.r.r) (mark_ok h6)
    · cases h
  | .v i, X, sc, e, cx, h, g => by
    have he := sndE (.v i) e cx h g
    unfold chkE at h
    split at h
    · exact lt_truth he (by intro _; rfl)
    · cases h
  | .c d, X, sc, e, cx, h, g => by
    have he := sndE (.c d) e cx h g
    unfold chkE at h
    split at h
    · exact lt_truth he (by intro _; rfl)
    · cases h
  | .tup es, X, sc, e, cx, h, g => by
    have he := sndE (.tup es) e cx h g
    unfold chkE at h
    split at h
    · exact lt_truth he (by intro _; rfl)
    · cases h
  | .lst es, X, sc, e, cx, h, g => by
    have he := sndE (.lst es) e cx h g
    unfold chkE at h
    split at h
    · exact lt_truth he (by intro _; rfl)
    · cases h
  | .bin o a b, X, sc, e, cx, h, g => by
    have he := sndE (.bin o a b) e cx h g
    unfold chkE at h
    split at h
    · exact lt_truth he (by intro _; rfl)
    · cases h
  | .ix a b, X, sc, e, cx, h, g => by
    have he := sndE (.ix a b) e cx h g
    unfold chkE at h
    split at h
    · exact lt_truth he (by intro _; rfl)
    · cases h
  | .call f sp es, X, sc, e, cx, h, g => by
    have he := sndE (.call f sp es) e cx h g
    unfold chkE at h
    split at h
    · exact lt_truth he (by intro _; rfl)
    · cases h
  | .bi b es, X, sc, e, cx, h, g => by
    have he := sndE (.bi b es) e cx h g
    unfold chkE at h
    split at h
    · exact lt_truth he (by intro _; rfl)
    · cases h
  | .isi a ts, X, sc, e, cx, h, g => by
    have he := sndE (.isi a ts) e cx h g
    unfold chkE at h
    split at h
    · exact lt_truth he (by intro _; rfl)
    · exact lt_truth he (by intro _; rfl)
    · cases h
  | .neg _, X, sc, e, cx, h, g | .sl _ _ _, X, sc, e, cx, h, g | .rev _, X, sc, e, cx, h, g | .lrg _, X, sc, e, cx, h, g | .me _ _ _, X, sc, e, cx, h, g | .lc _ _ _ _ _, X, sc, e, cx, h, g | .lc2 _ _ _ _ _ _ _, X, sc, e, cx, h, g | .dc _ _ _ _ _ _, X, sc, e, cx, h, g | .dic0, X, sc, e, cx, h, g =>
    ⟨fun _ _ _ _ _ _ ⟨_, _, _, _, _, f, _⟩ => False.elim f⟩
theorem sndI {C : Ck} : ∀ (q : It3) {X : Cx} {sc : Scope} (tg e : Expr), Cq X C sc → chkI C sc q e = true → (isTup tg == (match q with
        | .enum _ => true
        | .zip _ _ => true
        | _ => isTup tg)) = true → GoodAll X (callsI q) → PI X tg e (liftI X.K (wpI q))
  | .seq a, X, sc, tg, e, cx, h, ht, g => li_seq (sndE a e cx (by unfold chkI at h; exact h) g)
  | .rng1 a, X, sc, tg, e, cx, h, ht, g => by
    unfold chkI at h
    split at h
    · simp only [Bool.and_eq_true, decide_eq_true_eq] at h
      obtain ⟨⟨⟨⟨h1, h2⟩, h3⟩, h4⟩, h5⟩ := h
      subst h1
      exact li_rng1 (sndE a _ cx h4 g) (cx.gl h2) (cx.bl _ (List.contains_iff_mem.mp h3)) (star1 h5)
    · cases h
  | .rng2 a b, X, sc, tg, e, cx, h, ht, g => by
    unfold chkI at h
    split at h
    · simp only [Bool.and_eq_true, decide_eq_true_eq] at h
      obtain ⟨⟨⟨⟨⟨⟨h1, h2⟩, h3⟩, h4⟩, h5⟩, h6⟩, h7⟩ := h
      subst h1
      exact li_rng2 (sndE a _ cx h4 g.l) (sndE b _ cx h6 g.r) (cx.gl h2) (cx.bl _ (List.contains_iff_mem.mp h3)) (star1 h5) (star1 h7)
    · cases h
  | .rng3 a b c, X, sc, tg, e, cx, h, ht, g => by
    unfold chkI at h
    split at h
    · simp only [Bool.and_eq_true, decide_eq_true_eq] at h
      obtain ⟨⟨⟨⟨⟨⟨⟨⟨h1, h2⟩, h3⟩, h4⟩, h5⟩, h6⟩, h7⟩, h8⟩, h9⟩ := h
      subst h1
      exact li_rng3 (sndE a _ cx h4 g.l) (sndE b _ cx h6 g.r.l) (sndE c _ cx h8 g.r.r) (cx.gl h2) (cx.bl _ (List.contains_iff_mem.mp h3)) (star1 h5) (star1 h7) (star1 h9)
    · cases h
  | .enum a, X, sc, tg, e, cx, h, ht, g => by
    unfold chkI at h
    split at h
    · simp only [Bool.and_eq_true, decide_eq_true_eq] at h
      obtain ⟨⟨⟨⟨h1, h2⟩, h3⟩, h4⟩, h5⟩ := h
      subst h1
      cases tg <;> first
        | exact li_enum (sndE a _ cx h4 g) (cx.gl h2) (cx.bl _ (List.contains_iff_mem.mp h3)) (star1 h5)
        | exact absurd ht (by simp [isTup])
    · cases h
  | .zip a b, X, sc, tg, e, cx, h, ht, g => by
    unfold chkI at h
    split at h
    · simp only [Bool.and_eq_true, decide_eq_true_eq] at h
      obtain ⟨⟨⟨⟨⟨⟨h1, h2⟩, h3⟩, h4⟩, h5⟩, h6⟩, h7⟩ := h
      subst h1
      cases tg <;> first
        | exact li_zip (sndE a _ cx h4 g.l) (sndE b _ cx h6 g.r) (cx.gl h2) (cx.bl _ (List.contains_iff_mem.mp h3)) (star1 h5) (star1 h7) (starAny (by rw [List.all_cons, h7]; rfl))
        | exact absurd ht (by simp [isTup])
    · cases h
end
end G3
set_option Elab.async false
set_option linter.all false
set_option maxRecDepth 100000
set_option maxHeartbeats 16000000
namespace G3
open PySem PySem.Spec PyProof.Rows L2
mutual
def callsS : S → List (String × Sp3)
  | .set _ e | .aug _ _ e | .ex e | .ret e => callsE e
  | .setSub a i e => callsE a ++ (callsE i ++ callsE e)
  | .par _ _ a b => callsE a ++ callsE b
  | .augSub a i _ e => callsE a ++ (callsE i ++ callsE e)
  | .ret0 | .brk | .cont | .pass => []
  | .ite t a b => callsE t ++ (callsSs a ++ callsSs b)
  | .whil t b => callsE t ++ callsSs b
  | .for_ _ it b => callsI it ++ callsSs b
def callsSs : SL → List (String × Sp3)
  | .nil => []
  | .cons s ss => callsS s ++ callsSs ss
end
def isLc : E → Bool
  | .lc _ _ _ _ _ => true
  | .lc2 _ _ _ _ _ _ _ => true
  | .dc _ _ _ _ _ _ => true
  | _ => false
mutual
def chkS (C : Ck) (sc : Scope) : S → Stmt → Bool
  | .set t e, s => (match s with
    | .Assign [tg] v _ => chkTn C.N sc t tg && chkE C sc e v && (match tg with
      | .Name y py => !(swB sc y py v) || isLc e
      | .Tuple ts _ _ => (match v with
        | .Tuple vs _ _ => swNone sc ts vs
        | _ => true)
      | _ => false)
    | _ => false)
  | .setSub a i e, s => (match s with
    | .Assign [.Subscript x y _] v _ => chkE C sc a x && chkE C sc i y && chkE C sc e v && nSl y
    | _ => false)
  | .par i j a b, s => (match s with
    | .Assign [.Tuple [.Name x px, .Name y py] _ _] (.Tuple [u, v] _ _) _ => decide (C.N[i]? = some x) && decide (C.N[j]? = some y) && decide (i ≠ j) && chkE C sc a u && chkE C sc b v && swSome sc x y px py u v
    | _ => false)
  | .aug i o e, s => (match s with
    | .AugAssign (.Name x _) op v _ => decide (op = o.op) && decide (C.N[i]? = some x) && locB sc x && chkE C sc e v
    | _ => false)
  | .augSub a i o e, s => (match s with
    | .AugAssign (.Subscript x y _) op v _ => decide (op = o.op) && chkE C sc a x && chkE C sc i y && chkE C sc e v && nSl y
    | _ => false)
  | .ex e, s => (match s with
    | .Expr v _ => chkE C sc e v && nComp v
    | _ => false)
  | .ret e, s => (match s with
    | .Return (some v) _ => chkE C sc e v
    | _ => false)
  | .ret0, s => (match s with
    | .Return none _ => true
    | _ => false)
  | .ite t a b, s => (match s with
    | .If c x y _ => chkE C sc t c && chkSs C sc a x && chkSs C sc b y
    | _ => false)
  | .whil t b, s => (match s with
    | .While c x [] _ => chkE C sc t c && chkSs C sc b x
    | _ => false)
  | .for_ tn it b, s => (match s with
    | .For tg iter x [] _ => chkTn C.N sc tn tg && chkI C sc it iter && nSet iter && (isTup tg == (match it with
        | .enum _ => true
        | .zip _ _ => true
        | _ => isTup tg)) && chkSs C sc b x
    | _ => false)
  | .brk, s => (match s with
    | .Break _ => true
    | _ => false)
  | .cont, s => (match s with
    | .Continue _ => true
    | _ => false)
  | .pass, s => (match s with
    | .Pass _ => true
    | _ => false)
def chkSs (C : Ck) (sc : Scope) : SL → List Stmt → Bool
  | .nil, l => l.isEmpty
  | .cons s ss, l => (match l with
    | x :: r => chkS C sc s x && chkSs C sc ss r
    | [] => false)
end
theorem asg1 {e : Expr} {env : Env} (h : nStar e = true) : (assignEach [e] env).map (·.2) = [assign e env] := by rw [assignEach1 h]; rfl
theorem assign_sub {x y : Expr} {p : Pos} {env : Env} (h : nSl y = true) : ∀ v, assign (.Subscript x y p) env v = (do
      let ov ← holding [v] (eval x env)
      let iv ← holding [v, ov] (eval y env)
      standAt p
      holding [v, ov, iv] (setItem ov iv v)
      release [v, ov, iv] []) := by
  intro v
  cases y <;> first | rfl | cases h
theorem aug_st {y : Expr} (h : nSl y = true) : ∀ ov iv new, augStore y ov iv new = (do holding [new, ov, iv] (setItem ov iv new); release [new, ov, iv] []; pure .next) := by
  intro ov iv new
  cases y <;> first | rfl | cases h
mutual
theorem sndS {C : Ck} {X : Cx} {sc : Scope} (cx : Cq X C sc) (lo : LocOk X sc) : ∀ (q : S) (s : Stmt), chkS C sc q s = true → GoodAll X (callsS q) → PS X s (liftS X.K (wpS q))
  | .set t e, s, h, g => by
    unfold chkS at h
    split at h
    · rename_i tg v pos
      simp only [Bool.and_eq_true] at h
      obtain ⟨⟨h1, h2⟩, h3⟩ := h
      have G := sndTn cx.n cx.nd cx.calm lo t tg h1
      split at h3
      · rename_i y py
        cases hb : swB sc y py v with
        | false => exact ls_set (sndE e v cx h2 g) G (swB_no (l := pos.line) cx.hs hb) swn rfl
        | true =>
          rw [hb] at h3
          have hl : isLc e = true := h3
          cases t with
          | tup ts => unfold chkTn at h1; cases h1
          | nm i =>
          unfold chkTn at h1
          simp only [Bool.and_eq_true, decide_eq_true_eq] at h1
          cases e with
          | lc own tn it t b =>
            unfold chkE at h2
            split at h2
            · rename_i elt tg' iter ifs scope p'
              simp only [Bool.and_eq_true] at h2
              obtain ⟨⟨⟨⟨⟨⟨⟨k1, k2⟩, k3⟩, k4⟩, k5⟩, k6⟩, k7⟩, k8⟩ := h2
              have ok : BlkOk X.N X.env.scope scope (strN own) := by rw [cx.n, cx.hs]; exact blkOk_by k1
              have hw : (strN own).map (·.2) = own.map (·.2) := by unfold strN; rw [List.map_map]; rfl
              have hloc : X.env.scope.names.lookup y = some .local := by
                rw [cx.hs]
                have hb' : (sc.names.lookup y == some .local && py.line == p'.line && !(scope.names.any fun (n, k) => n == y && (k == .local || k == .cell))) = true := hb
                simp only [Bool.and_eq_true, beq_iff_eq] at hb'
                exact hb'.1.1
              have R := ls_lc (own := strN own) (spos := pos) cx.calm (by rw [cx.n]; exact cx.nd) (by rw [cx.n]; exact h1.1) hloc (swB_yes cx.hs cx.kind hb) (sndI it tg' iter cx k4 k6 g.l) ok
                (fun s H Cc cl fp => sndTn (cx.blk ok.kind s H Cc cl fp).n cx.nd cx.calm (loc_blk cx s H Cc cl fp) tn tg' k2)
                (fun s H Cc cl fp => sndTO t ifs (cx.blk ok.kind s H Cc cl fp) k7 g.r.l)
                (fun s H Cc cl fp => sndE b elt (cx.blk ok.kind s H Cc cl fp) k8 g.r.r) (fold_ok k5) (by rw [hw]; exact k3)
              rw [hw] at R
              exact R
            · cases h2
          | lc2 own tn it vs1 tn1 it1 b =>
            unfold chkE at h2
            split at h2
            · rename_i elt tg' iter tg1 iter1 scope p'
              simp only [Bool.and_eq_true] at h2
              obtain ⟨⟨⟨⟨⟨⟨⟨⟨⟨⟨⟨⟨k1, k2⟩, k3⟩, k4⟩, k5⟩, k6⟩, j1⟩, j2⟩, j3⟩, j4⟩, j5⟩, j6⟩, j7⟩ := h2
              have ok : BlkOk X.N X.env.scope scope (strN own) := by rw [cx.n, cx.hs]; exact blkOk_by k1
              have hw : (strN own).map (·.2) = own.map (·.2) := by unfold strN; rw [List.map_map]; rfl
              have hloc : X.env.scope.names.lookup y = some .local := by
                rw [cx.hs]
                have hb' : (sc.names.lookup y == some .local && py.line == p'.line && !(scope.names.any fun (n, k) => n == y && (k == .local || k == .cell))) = true := hb
                simp only [Bool.and_eq_true, beq_iff_eq] at hb'
                exact hb'.1.1
              have R := ls_lc2 (own := strN own) (vs1 := vs1) (spos := pos) cx.calm (by rw [cx.n]; exact cx.nd) (by rw [cx.n]; exact h1.1) hloc (swB_yes cx.hs cx.kind hb) (sndI it tg' iter cx k4 k6 g.l) ok
                (fun i hi => by rw [hw]; exact List.contains_iff_mem.mp (List.all_eq_true.mp j6 i hi))
                (fun s H Cc cl fp => sndTn (cx.blk ok.kind s H Cc cl fp).n cx.nd cx.calm (loc_blk cx s H Cc cl fp) tn tg' k2)
                (fun s H Cc cl fp => sndI it1 tg1 iter1 (cx.blk ok.kind s H Cc cl fp) j3 j5 g.r.l)
                (fun s H Cc cl fp => sndTn (cx.blk ok.kind s H Cc cl fp).n cx.nd cx.calm (loc_blk cx s H Cc cl fp) tn1 tg1 j1)
                (fun s H Cc cl fp => sndE b elt (cx.blk ok.kind s H Cc cl fp) j7 g.r.r) (fold_ok k5) (fun env => fold_ok j4) (by rw [hw]; exact k3) j2
              rw [hw] at R
              exact R
            · cases h2
          | dc own tn it t k b =>
            unfold chkE at h2
            split at h2
            · rename_i kx vx tg' iter ifs scope p'
              simp only [Bool.and_eq_true] at h2
              obtain ⟨⟨⟨⟨⟨⟨⟨⟨k1, k2⟩, k3⟩, k4⟩, k5⟩, k6⟩, k7⟩, k8⟩, k9⟩ := h2
              have ok : BlkOk X.N X.env.scope scope (strN own) := by rw [cx.n, cx.hs]; exact blkOk_by k1
              have hw : (strN own).map (·.2) = own.map (·.2) := by unfold strN; rw [List.map_map]; rfl
              have hloc : X.env.scope.names.lookup y = some .local := by
                rw [cx.hs]
                have hb' : (sc.names.lookup y == some .local && py.line == p'.line && !(scope.names.any fun (n, k) => n == y && (k == .local || k == .cell))) = true := hb
                simp only [Bool.and_eq_true, beq_iff_eq] at hb'
                exact hb'.1.1
              have R := ls_dc (own := strN own) (spos := pos) cx.calm (by rw [cx.n]; exact cx.nd) (by rw [cx.n]; exact h1.1) hloc (swB_yesD cx.hs cx.kind hb) (sndI it tg' iter cx k4 k6 g.l) ok
                (fun s H Cc cl fp => sndTn (cx.blk ok.kind s H Cc cl fp).n cx.nd cx.calm (loc_blk cx s H Cc cl fp) tn tg' k2)
                (fun s H Cc cl fp => sndTO t ifs (cx.blk ok.kind s H Cc cl fp) k7 g.r.l)
                (fun s H Cc cl fp => sndE k kx (cx.blk ok.kind s H Cc cl fp) k8 g.r.r.l)
                (fun s H Cc cl fp => sndE b vx (cx.blk ok.kind s H Cc cl fp) k9 g.r.r.r) (fold_ok k5) (by rw [hw]; exact k3)
              rw [hw] at R
              exact R
            · cases h2
          | _ => cases hl
      · rename_i ts k p
        have hn : swappedStores [.Tuple ts k p] v X.env = pure none := by
          cases v <;> first
            | exact swNone_ok cx.hs h3
            | rfl
        exact ls_set (sndE e v cx h2 g) G (show swapsWith v (some (.Tuple ts k p)) pos.line X.env = pure false from swt) hn rfl
      · cases h3
    · cases h
  | .setSub a i e, s, h, g => by
    unfold chkS at h
    split at h
    · rename_i x y p' v pos
      simp only [Bool.and_eq_true] at h
      obtain ⟨⟨⟨h1, h2⟩, h3⟩, h4⟩ := h
      exact le_setSub cx.hu (sndE e _ cx h3 g.r.r) (sndE a _ cx h1 g.l) (sndE i _ cx h2 g.r.l) (show swapsWith v (some (.Subscript x y p')) pos.line X.env = pure false from swu) sws (assign_sub h4)
    · cases h
  | .par i j a b, s, h, g => by
    unfold chkS at h
    split at h
    · simp only [Bool.and_eq_true, decide_eq_true_eq] at h
      obtain ⟨⟨⟨⟨⟨h1, h2⟩, h3⟩, h4⟩, h5⟩, h6⟩ := h
      have h7 := h6
      unfold swSome at h7
      simp only [Bool.and_eq_true, Bool.not_eq_true', beq_iff_eq, bne_iff_ne] at h7
      obtain ⟨⟨⟨⟨⟨⟨⟨hx, hy⟩, hl⟩, hne⟩, na⟩, nb⟩, hf⟩, hc⟩ := h7
      exact ls_par cx.calm (by rw [cx.n]; exact cx.nd) (by rw [cx.n]; exact h1) (by rw [cx.n]; exact h2) h3 (by rw [cx.hs]; exact hx) (by rw [cx.hs]; exact hy) (sndE a _ cx h4 g.l) (sndE b _ cx h5 g.r) (star1 na) (star1 nb) (swSome_ok cx.hs cx.kind h6)
    · cases h
  | .aug i o e, s, h, g => by
    unfold chkS at h
    split at h
    · simp only [Bool.and_eq_true, decide_eq_true_eq] at h
      obtain ⟨⟨⟨h1, h2⟩, h3⟩, h4⟩ := h
      subst h1
      obtain ⟨l1, l2⟩ := lo _ h3
      exact ls_aug (by rw [cx.n]; exact cx.nd) (by rw [cx.n]; exact h2) l1 (sndE e _ cx h4 g) l2
    · cases h
  | .augSub a i o e, s, h, g => by
    unfold chkS at h
    split at h
    · simp only [Bool.and_eq_true, decide_eq_true_eq] at h
      obtain ⟨⟨⟨⟨h1, h2⟩, h3⟩, h4⟩, h5⟩ := h
      subst h1
      exact ls_augSub cx.hu (sndE a _ cx h2 g.l) (sndE i _ cx h3 g.r.l) (sndE e _ cx h4 g.r.r) (aug_st h5)
    · cases h
  | .ex e, s, h, g => by
    unfold chkS at h
    split at h
    · simp only [Bool.and_eq_true] at h
      exact ls_ex (sndE e _ cx h.1 g) (sw_no h.2)
    · cases h
  | .ret e, s, h, g => by
    unfold chkS at h
    split at h
    · exact ls_ret (sndE e _ cx h g)
    · cases h
  | .ret0, s, h, g => by
    unfold chkS at h
    split at h
    · exact ls_ret0
    · cases h
  | .ite t a b, s, h, g => by
    unfold chkS at h
    split at h
    · simp only [Bool.and_eq_true] at h
      obtain ⟨⟨h1, h2⟩, h3⟩ := h
      exact ls_if (sndT t _ cx h1 g.l) (sndSs cx lo a _ h2 g.r.l) (sndSs cx lo b _ h3 g.r.r)
    · cases h
  | .whil t b, s, h, g => by
    unfold chkS at h
    split at h
    · simp only [Bool.and_eq_true] at h
      exact ls_while cx.hp (sndT t _ cx h.1 g.l) (sndSs cx lo b _ h.2 g.r)
    · cases h
  | .for_ tn it b, s, h, g => by
    unfold chkS at h
    split at h
    · simp only [Bool.and_eq_true] at h
      obtain ⟨⟨⟨⟨h1, h2⟩, h3⟩, h4⟩, h5⟩ := h
      exact ls_for cx.hp cx.calm (sndI it _ _ cx h2 h4 g.l) (sndTn cx.n cx.nd cx.calm lo tn _ h1) (sndSs cx lo b _ h5 g.r) (fold_ok h3)
    · cases h
  | .brk, s, h, g => by
    unfold chkS at h
    split at h
    · exact ls_brk
    · cases h
  | .cont, s, h, g => by
    unfold chkS at h
    split at h
    · exact ls_cont
    · cases h
  | .pass, s, h, g => by
    unfold chkS at h
    split at h
    · exact ls_pass
    · cases h
theorem sndSs {C : Ck} {X : Cx} {sc : Scope} (cx : Cq X C sc) (lo : LocOk X sc) : ∀ (q : SL) (l : List Stmt), chkSs C sc q l = true → GoodAll X (callsSs q) → PSs X l (liftS X.K (wpSs q))
  | .nil, l, h, g => by
    unfold chkSs at h
    cases l with
    | nil => exact lss_nil
    | cons _ _ => cases h
  | .cons s ss, [], h, g => by cases h
  | .cons s ss, x :: l, h, g => by
    unfold chkSs at h
    simp only [Bool.and_eq_true] at h
    exact lss_cons (t := wpS s) (u := wpSs ss) (sndS cx lo s x h.1 g.l) (sndSs cx lo ss l h.2 g.r)
end
/-! ### a def keeps its promise -/
structure GoodG (P : Program) (w : World) (K : PySem.W.Frag) (mg : Str → Option Value) (base : Heap) (k : Nat) (x : String) (sp : Sp3) : Prop where
  ex : ∃ f fd ps j, j ≤ k ∧ FnOk P w K mg base CX0 j f fd ps (liftSp K sp) ∧ mg (Str.ofString x) = some (.ref f) ∧ PySem.W.keepIn K (.ref f) = true ∧ Binds K fd ps []
theorem GoodG.mono {P : Program} {w : World} {K : PySem.W.Frag} {mg : Str → Option Value} {base : Heap} {j k : Nat} {x : String} {sp : Sp3} (g : GoodG P w K mg base j x sp) (h : j ≤ k) : GoodG P w K mg base k x sp := by
  obtain ⟨f, fd, ps, i, hi, r⟩ := g.ex
  exact ⟨f, fd, ps, i, Nat.le_trans hi h, r⟩
/-- what a body must reach -/
def rets (Q : K3) : Ends3 where
  nx := fun _ M' => wk (Q .non) M'
  rt := fun d M' => wk (Q d) M'
def st3 (n : Nat) (ds : List D) : S3 := ds.map some ++ List.replicate (n - ds.length) none
theorem fn_ok {P : Program} {w : World} {K : PySem.W.Frag} {mg : Str → Option Value} {base : Heap} {qual : Str} {params : Arguments} {bodyS : List Stmt} {scope : Scope} {kws : List (Str × V)} {f : Addr} {fd : FuncData} {ps : List Str} {k : Nat} {nm : Str}
    (F : FunD K nm qual params bodyS scope [] kws f fd) (C : Ck) (Sc : FnScope C.N ps scope) (body : SL) (hchk : chkSs C scope body bodyS = true) (hbl : ∀ x ∈ C.bl, mg x = none) (him : ∀ p ∈ C.im, mg p.1 = some (.builtin p.2))
    (hg : ∀ p ∈ callsSs body, GoodG P w K mg base k p.1 p.2) (sp : Sp3)
    (hl : ∀ ds M Q, sp ds M Q → ds.length = ps.length) (hsp : ∀ ds M Q, sp ds M Q → wpSs body (rets Q) (st3 C.N.length ds) M) : FnOk P w K mg base CX0 (k + 1) f fd ps (liftSp K sp) := by
  refine F.ok Sc (fun vs H Q E ⟨ds, M, Q3, hr, r, h, L⟩ => by rw [r.length]; exact hl _ _ _ h) (fun cdv A outer s H vs Q E hr ⟨ds, M, Q3, hm, r, h, L⟩ => ⟨_, PSs.nox (X := cxOf CX0 P w K mg base C.N qual scope f cdv A outer s H E) (sndSs (C := C) (sc := scope) ⟨rfl, rfl, Sc.nd, rfl, hr.units, hbl, him, Sc.kind, rfl⟩ (fun x hx => ⟨?_, .inl rfl⟩) body bodyS hchk (fun p hp => ?_)), ?_⟩)
  · unfold locB at hx
    split at hx
    · exact .inl (by assumption)
    · exact .inr (by assumption)
    · cases hx
  · obtain ⟨f', fd', ps', j, hj, g1, g2, g3, g4⟩ := (hg p hp).ex
    exact ⟨f', fd', ps', j, g1, hr.mono hj, g2, g3, g4⟩
  · refine ⟨st3 C.N.length ds, M, rets Q3, hm, ?_, hsp _ _ _ h, ?_⟩
    · unfold L2.start st3
      rw [r.length]
      exact Slots.start _ r
    · exact ⟨fun σ' H' τ' M' q g hr' _ => let ⟨M0, sb, q⟩ := q; L _ _ _ _ q g (hr'.sub sb) .non, fun v H' d M' q g hr' rv => let ⟨M0, sb, q⟩ := q; L _ _ _ _ q g (hr'.sub sb) rv, fun _ _ _ _ q => q.elim, fun _ _ _ _ q => q.elim⟩
theorem good_ok {P : Program} {w : World} {K : PySem.W.Frag} {mg : Str → Option Value} {base : Heap} {qual : Str} {params : Arguments} {bodyS : List Stmt} {scope : Scope} {kws : List (Str × V)} {f : Addr} {fd : FuncData} {ps : List Str} {k : Nat} {nm : Str} {x : String}
    (F : FunD K nm qual params bodyS scope [] kws f fd) (C : Ck) (Sc : FnScope C.N ps scope) (body : SL) (hchk : chkSs C scope body bodyS = true) (hbl : ∀ x ∈ C.bl, mg x = none) (him : ∀ p ∈ C.im, mg p.1 = some (.builtin p.2))
    (hm : mg (Str.ofString x) = some (.ref f)) (hb : Binds K fd ps [])
    (hg : ∀ p ∈ callsSs body, GoodG P w K mg base k p.1 p.2) (sp : Sp3)
    (hl : ∀ ds M Q, sp ds M Q → ds.length = ps.length) (hsp : ∀ ds M Q, sp ds M Q → wpSs body (rets Q) (st3 C.N.length ds) M) : GoodG P w K mg base (k + 1) x sp :=
  ⟨f, fd, ps, k + 1, Nat.le_refl _, fn_ok F C Sc body hchk hbl him hg sp hl hsp, hm, F.kp, hb⟩
end G3
set_option Elab.async false
set_option linter.all false
set_option maxRecDepth 100000
set_option maxHeartbeats 4000000
/-! short rules for readings -/
namespace G3
open L2
section
variable {M : Mp} {Q : K3} {p q : PySem.Addr} {l m : List D} {i j : Int} {d e : D} {α : Type}
theorem some3_some {x : α} {f : α → Prop} : some3 (some x) f = f x := rfl
theorem some3_none {f : α → Prop} : some3 none f = False := rfl
theorem atI0 {x : α} {r : List α} : atI (x :: r) 0 = some x := atI_nat (j := 0) rfl
theorem atI1 {x y : α} {r : List α} : atI (x :: y :: r) 1 = some y := atI_nat (j := 1) rfl
theorem atI2 {x y z : α} {r : List α} : atI (x :: y :: z :: r) 2 = some z := atI_nat (j := 2) rfl
theorem atI3 {x y z w : α} {r : List α} : atI (x :: y :: z :: w :: r) 3 = some w := atI_nat (j := 3) rfl
theorem atI_some {l : List α} {i : Int} (h0 : 0 ≤ i) (h1 : i < l.length) : atI l i = some (l[i.toNat]'(by omega)) := by
  have : (i.toNat : Int) = i := by omega
  have e := atI_nat (xs := l) (j := i.toNat) (v := l[i.toNat]'(by omega)) (List.getElem?_eq_getElem (by omega))
  rw [this] at e; exact e
theorem atI_map {β : Type} {f : α → β} {l : List α} {i : Int} : atI (l.map f) i = (atI l i).map f := by
  unfold atI
  rw [List.length_map]
  cases ixN l.length i with
  | none => rfl
  | some k => simp
/-- an item of ints -/
def getZ (l : List Int) (i : Int) : Int := l.getD i.toNat 0
theorem atI_ints {l : List Int} {i : Int} (h0 : 0 ≤ i) (h1 : i < l.length) : atI (l.map D.int) i = some (.int (getZ l i)) := by
  rw [atI_map, atI_some h0 h1]
  unfold getZ
  rw [List.getD_eq_getElem?_getD, List.getElem?_eq_getElem (by omega)]
  rfl
theorem ix3_tup : ix3 (.tup l) (.int i) M Q = some3 (atI l i) fun x => Q x M := by
  unfold ix3 some3; dsimp only; cases atI l i <;> rfl
theorem ix3_cl : ix3 (.cl l) (.int i) M Q = some3 (atI l i) fun x => Q x M := by
  unfold ix3 some3; dsimp only; cases atI l i <;> rfl
theorem ix3_ref (h : M p = some (.lst l)) : ix3 (.ref p) (.int i) M Q = some3 (atI l i) fun x => Q x M := by
  unfold ix3 some3; dsimp only; rw [h]; dsimp only; cases atI l i <;> rfl
theorem ix3_dic {l : List (Key × D)} (h : M p = some (.dic l)) : ix3 (.ref p) (.int i) M Q = some3 (getK l (.inl i)) fun x => Q x M := by
  unfold ix3 some3; dsimp only; rw [h]; dsimp only [keyD]; cases getK l (.inl i) <;> rfl
theorem ix3_intsT {ns : List Int} (h0 : 0 ≤ i) (h1 : i < ns.length) : ix3 (.tup (ns.map .int)) (.int i) M Q = Q (.int (getZ ns i)) M := by
  rw [ix3_tup, atI_ints h0 h1, some3_some]
theorem ix3_intsL {ns : List Int} (h : M p = some (.lst (ns.map .int))) (h0 : 0 ≤ i) (h1 : i < ns.length) : ix3 (.ref p) (.int i) M Q = Q (.int (getZ ns i)) M := by
  rw [ix3_ref h, atI_ints h0 h1, some3_some]
theorem getR3_ref : getR3 (.ref p) e M Q = ix3 (.ref p) e M Q := rfl
theorem len3_tup : len3 (.tup l) M Q = Q (.int l.length) M := rfl
theorem len3_cl : len3 (.cl l) M Q = Q (.int l.length) M := rfl
theorem len3_ref (h : M p = some (.lst l)) : len3 (.ref p) M Q = Q (.int l.length) M := by unfold len3; dsimp only; rw [h]
theorem len3_dic {l : List (Key × D)} (h : M p = some (.dic l)) : len3 (.ref p) M Q = Q (.int l.length) M := by unfold len3; dsimp only; rw [h]
theorem add_int : bin3 .add (.int i) (.int j) M Q = Q (.int (i + j)) M := rfl
theorem add_tup : bin3 .add (.tup l) (.tup m) M Q = (l.length + m.length ≤ PySem.sizeLine ∧ Q (.tup (l ++ m)) M) := rfl
theorem add_ref (h : M p = some (.lst l)) (h' : M q = some (.lst m)) : bin3 .add (.ref p) (.ref q) M Q = (l.length + m.length ≤ PySem.sizeLine ∧ newL (l ++ m) M Q) := by
  apply propext
  constructor
  · rintro ⟨a, b, ha, hb, z⟩
    rw [getL_of h] at ha; rw [getL_of h'] at hb
    cases ha; cases hb
    exact z
  · intro z
    exact ⟨_, _, getL_of h, getL_of h', z⟩
theorem sub_int : bin3 .sub (.int i) (.int j) M Q = Q (.int (i - j)) M := rfl
theorem mul_int : bin3 .mul (.int i) (.int j) M Q = (MulOk i j ∧ Q (.int (i * j)) M) := rfl
theorem mul_ref (h : M p = some (.lst l)) : bin3 .mul (.ref p) (.int j) M Q = ((-(2 ^ 63) ≤ j ∧ j < 2 ^ 63 ∧ l.length * j.toNat ≤ PySem.sizeLine) ∧ newL (List.replicate j.toNat l).flatten M Q) := by
  apply propext
  constructor
  · rintro ⟨a, ha, z⟩
    rw [getL_of h] at ha
    cases ha
    exact z
  · intro z
    exact ⟨_, getL_of h, z⟩
theorem fdiv_int : bin3 .fdiv (.int i) (.int j) M Q = (DivOk j ∧ Q (.int (i / j)) M) := rfl
theorem mod_int : bin3 .mod (.int i) (.int j) M Q = (0 < j ∧ Q (.int (i % j)) M) := rfl
theorem pow_int : bin3 .pow (.int i) (.int j) M Q = (CPow i j ∧ Q (.int (i ^ j.toNat)) M) := rfl
theorem shl_int : bin3 .shl (.int i) (.int j) M Q = (CPow i j ∧ Q (.int (i * 2 ^ j.toNat)) M) := rfl
theorem aadd_int : aug3 .add (.int i) (.int j) M Q = Q (.int (i + j)) M := rfl
theorem asub_int : aug3 .sub (.int i) (.int j) M Q = Q (.int (i - j)) M := rfl
theorem eq_int : cmp3 .eq (.int i) (.int j) M Q = Q (.bl (decide (i = j))) M := rfl
theorem ne_int : cmp3 .ne (.int i) (.int j) M Q = Q (.bl (!decide (i = j))) M := rfl
theorem lt_int : cmp3 .lt (.int i) (.int j) M Q = Q (.bl (decide (i < j))) M := rfl
theorem le_int : cmp3 .le (.int i) (.int j) M Q = Q (.bl (decide (i ≤ j))) M := rfl
theorem gt_int : cmp3 .gt (.int i) (.int j) M Q = Q (.bl (decide (j < i))) M := rfl
theorem ge_int : cmp3 .ge (.int i) (.int j) M Q = Q (.bl (decide (j ≤ i))) M := rfl
theorem isN_ : cmp3 .isN d .non M Q = Q (.bl (isNon d)) M := by cases d <;> rfl
theorem notN_ : cmp3 .notN d .non M Q = Q (.bl (!isNon d)) M := by cases d <;> rfl
theorem inn_ : cmp3 .inn d e M Q = in3 id d e M Q := by cases d <;> rfl
theorem nin_ : cmp3 .nin d e M Q = in3 not d e M Q := by cases d <;> rfl
theorem in3_tup {f : Bool → Bool} : in3 f d (.tup l) M Q = (flatD d = true ∧ l.all flatD = true ∧ Q (.bl (f (inF d l))) M) := rfl
theorem in3_ref {f : Bool → Bool} (h : M p = some (.lst l)) : in3 f d (.ref p) M Q = (flatD d = true ∧ l.all flatD = true ∧ Q (.bl (f (inF d l))) M) := by unfold in3; dsimp only; rw [h]
theorem in3_dic {f : Bool → Bool} {l : List (Key × D)} (h : M p = some (.dic l)) : in3 f (.int i) (.ref p) M Q = Q (.bl (f (getK l (.inl i)).isSome)) M := by unfold in3; dsimp only; rw [h]; rfl
theorem isNon_int : isNon (.int i) = false := rfl
theorem isNon_non : isNon .non = true := rfl
theorem isNon_tup : isNon (.tup l) = false := rfl
theorem isNon_ref : isNon (.ref p) = false := rfl
theorem isB3_bl {k : Bool} {R : Bool → Mp → Prop} : isB3 (.bl k) M R = R k M := rfl
theorem isI_int {f : Int → Prop} : isI (.int i) f = f i := rfl
theorem one_ {f : D → Prop} : one [d] f = f d := rfl
theorem two_ {f : D → D → Prop} : two [d, e] f = f d e := rfl
theorem tru_bl {k : Bool} {R : Bool → Mp → Prop} : tru3 (.bl k) M R = R k M := rfl
theorem tru_int {R : Bool → Mp → Prop} : tru3 (.int i) M R = R (i != 0) M := rfl
theorem tru_non {R : Bool → Mp → Prop} : tru3 .non M R = R false M := rfl
theorem tru_tup {R : Bool → Mp → Prop} : tru3 (.tup l) M R = R (!l.isEmpty) M := rfl
theorem tru_ref {R : Bool → Mp → Prop} (h : M p = some (.lst l)) : tru3 (.ref p) M R = R (!l.isEmpty) M := by unfold tru3; dsimp only; rw [h]
theorem int3_int : int3 (.int i) M Q = Q (.int i) M := rfl
theorem int3_bl {k : Bool} : int3 (.bl k) M Q = Q (.int (if k then 1 else 0)) M := rfl
theorem listAt_ref (h : M p = some (.lst l)) : listAt (.ref p) M = some l := getL_of h
theorem seqAt_ref (h : M p = some (.lst l)) : seqAt (.ref p) M = some l := getL_of h
theorem seqAt_tup : seqAt (.tup l) M = some l := rfl
theorem listAt_cl : listAt (.cl l) M = some l := rfl
theorem list3_ref (h : M p = some (.lst l)) : list3 (.ref p) M Q = newL l M Q := by unfold list3; dsimp only; rw [h]
theorem list3_dic {l : List (Key × D)} (h : M p = some (.dic l)) : list3 (.ref p) M Q = newL (l.map fun kv => keyV kv.1) M Q := by unfold list3; dsimp only; rw [h]
theorem list3_tup : list3 (.tup l) M Q = newL l M Q := rfl
theorem sl3_tup {lo hi : Option Int} : sl3 (.tup l) lo hi M Q = Q (.tup (cutD l lo hi)) M := rfl
theorem sl3_cl {lo hi : Option Int} : sl3 (.cl l) lo hi M Q = newL (cutD l lo hi) M Q := rfl
theorem sl3_ref {lo hi : Option Int} (h : M p = some (.lst l)) : sl3 (.ref p) lo hi M Q = newL (cutD l lo hi) M Q := by unfold sl3; dsimp only; rw [getL_of h]
theorem rev3_ref (h : M p = some (.lst l)) : rev3 (.ref p) M Q = newL l.reverse M Q := by unfold rev3; dsimp only; rw [getL_of h]
theorem neg3_int : neg3 (.int i) M Q = Q (.int (-i)) M := rfl
theorem refL_ref {f : PySem.Addr → List D → Prop} (h : M p = some (.lst l)) : refL (.ref p) M f = f p l := by unfold refL; dsimp only; rw [h]
theorem refD_ref {l : List (Key × D)} {f : PySem.Addr → List (Key × D) → Prop} (h : M p = some (.dic l)) : refD (.ref p) M f = f p l := by unfold refD; dsimp only; rw [h]
theorem isTyM_ref {T : String} (h : M p = some (.lst l)) : isTyM T (.ref p) M = (T = "list") := by unfold isTyM; dsimp only; rw [h]
theorem isTyM_dic {T : String} {l : List (Key × D)} (h : M p = some (.dic l)) : isTyM T (.ref p) M = (T = "dict") := by unfold isTyM; dsimp only; rw [h]
theorem seqI_tup {R : List D → (Mp → Prop) → Mp → Prop} : seqI (.tup l) M R = R l (fun _ => True) M := rfl
theorem seqI_cl {R : List D → (Mp → Prop) → Mp → Prop} : seqI (.cl l) M R = R l (fun _ => True) M := rfl
theorem seqI_ref {R : List D → (Mp → Prop) → Mp → Prop} (h : M p = some (.lst l)) : seqI (.ref p) M R = R l (fun M' => M' p = some (.lst l)) M := by unfold seqI; dsimp only; rw [h]
theorem enum3_ref {R : List D → (Mp → Prop) → Mp → Prop} (h : M p = some (.lst l)) : enum3 (.ref p) M R = R (enumD l) (fun M' => M' p = some (.lst l)) M := by unfold enum3; dsimp only; rw [seqI_ref h]
theorem zip3_tup {R : List D → (Mp → Prop) → Mp → Prop} : zip3 (.tup l) (.tup m) M R = R (zipD l m) (fun _ => True) M := rfl
theorem zip3_ref {R : List D → (Mp → Prop) → Mp → Prop} (h : M p = some (.lst l)) (h' : M q = some (.lst m)) : zip3 (.ref p) (.ref q) M R = R (zipD l m) (fun M' => M' p = some (.lst l) ∧ M' q = some (.lst m)) M := by
  show seqI (.ref p) M (fun ds keep M3 => seqI (.ref q) M3 fun es keep' M4 => R (zipD ds es) (fun M => keep M ∧ keep' M) M4) = _
  rw [seqI_ref h, seqI_ref h']
theorem set3_ref {x : D} {R : Mp → Prop} (h : M p = some (.lst l)) : set3 (.ref p) (.int i) x M R = some3 (ixN l.length i) fun k => R (put M p (.lst (l.set k x))) := by unfold set3; dsimp only; rw [h]; rfl
theorem set3_dic {x : D} {l : List (Key × D)} {R : Mp → Prop} (h : M p = some (.dic l)) : set3 (.ref p) (.int i) x M R = (l.length < PySem.sizeLine ∧ R (put M p (.dic (putD l (.inl i) x)))) := by unfold set3; dsimp only; rw [h]; rfl
theorem ixN_in {n : Nat} {i : Int} (h0 : 0 ≤ i) (h1 : i < n) : ixN n i = some i.toNat := by unfold ixN; rw [if_pos h0, if_pos h1]
theorem chain_t {tc : TE3} {r : R23} {τ : S3} : chain3 tc r e τ (.bl true) M Q = tc τ M fun f M4 => r e f M4 Q := rfl
theorem chain_f {tc : TE3} {r : R23} {τ : S3} : chain3 tc r e τ (.bl false) M Q = Q (.bl false) M := rfl
/-! heaps -/
theorem ne_of_put {o o' : MO} (h : M p = some o) (h' : M q = none) : p ≠ q := fun z => by subst z; rw [h] at h'; cases h'
theorem put_keep {o o' : MO} (h : M p = some o) (h' : M q = none) : put M q o' p = some o := by rw [put_ne (ne_of_put (o' := o) h h')]; exact h
theorem put_free {o : MO} (h : put M q o p = none) : M p = none ∧ p ≠ q := by
  by_cases e : p = q
  · subst e; rw [put_same] at h; cases h
  · rw [put_ne e] at h; exact ⟨h, e⟩
theorem put_put {o o' : MO} : put (put M p o) p o' = put M p o' := by
  funext b; unfold put; split <;> rfl
theorem put_comm {o o' : MO} (h : p ≠ q) : put (put M p o) q o' = put (put M q o') p o := by
  funext b
  by_cases h1 : b = p
  · subst h1; rw [put_ne h, put_same, put_same]
  · by_cases h2 : b = q
    · subst h2; rw [put_same, put_ne h1, put_same]
    · rw [put_ne h2, put_ne h1, put_ne h1, put_ne h2]
theorem put_self {o : MO} (h : M p = some o) : put M p o = M := by
  funext b
  by_cases h1 : b = p
  · subst h1; rw [put_same, h]
  · rw [put_ne h1]
theorem wk_new {P : Mp → Prop} {o : MO} (h : M p = none) (q : P M) : wk P (put M p o) := ⟨M, .new h, q⟩
theorem wk_sub {P : Mp → Prop} {M' : Mp} (h : Sub M M') (q : P M) : wk P M' := ⟨M, h, q⟩
/-! ### comprehensions whose items are reckoned apart -/
theorem lc_pure {ds : List D} {keep : Mp → Prop} {tn : Tn} {vs : List Nat} {tt : TT3} {te : TE3} {τ : S3} {M1 : Mp} {Q : K3} (f : Nat → D → Option D)
    (hk : ∀ M, Sub M1 M → keep M)
    (hf : ∀ i d, ds[i]? = some d → ∀ M, Sub M1 M → ∀ (Qe : K3) (Qn : Mp → Prop), (∀ y, f i d = some y → ∀ M4, Sub M M4 → Qe y M4) → (f i d = none → ∀ M4, Sub M M4 → Qn M4) →
      wpG tn d M (wipe3 τ vs) fun τ2 => tt τ2 M fun b M3 => if b = true then te τ2 M3 Qe else Qn M3)
    (hl : ds.length < PySem.sizeLine)
    (hQ : newL ((ds.mapIdx f).filterMap id) M1 Q) : lcW ds keep tn vs tt te τ M1 Q := by
  intro p hp
  refine ⟨fun i acc M => acc = ((ds.take i).mapIdx f).filterMap id ∧ M = put M1 p (.lst acc), ⟨rfl, rfl⟩, ?_⟩
  rintro i acc M ⟨rfl, rfl⟩ hi
  have hs : Sub M1 (put M1 p (.lst (((ds.take i).mapIdx f).filterMap id))) := .new hp
  have hlen : (((ds.take i).mapIdx f).filterMap id).length ≤ ds.length := by
    refine Nat.le_trans (List.length_filterMap_le _ _) ?_
    rw [List.length_mapIdx, List.length_take]; omega
  refine ⟨hk _ hs, put_same, fun d hd => ?_, fun e => ?_⟩
  · have hstep : (ds.take (i + 1)) = ds.take i ++ [d] := by
      rw [List.take_add_one, hd]; rfl
    have hlt : (ds.take i).length = i := by rw [List.length_take]; have := (List.getElem?_eq_some_iff.mp hd).1; omega
    have hnext : ((ds.take (i + 1)).mapIdx f).filterMap id = ((ds.take i).mapIdx f).filterMap id ++ (f i d).toList := by
      rw [hstep, List.mapIdx_append, List.filterMap_append]
      simp only [List.mapIdx_cons, List.mapIdx_nil, Nat.zero_add, hlt]
      cases h : f i d <;> simp [h]
    refine hf i d hd _ hs _ _ (fun y hy M4 sb => ?_) fun hn M4 sb => ?_
    · refine ⟨Nat.lt_of_le_of_lt hlen hl, sb _ _ put_same, put M1 p _, ((hs.trans sb).put p _), ?_, rfl⟩
      rw [hnext, hy]; rfl
    · refine ⟨put M1 p _, sb, ?_, rfl⟩
      rw [hnext, hn]; simp
  · subst e
    rw [List.take_length]
    exact .of (hQ p hp)
theorem lc_map {ds : List D} {keep : Mp → Prop} {tn : Tn} {vs : List Nat} {te : TE3} {τ : S3} {M1 : Mp} {Q : K3} (f : Nat → D → D)
    (hk : ∀ M, Sub M1 M → keep M)
    (hf : ∀ i d, ds[i]? = some d → ∀ M, Sub M1 M → ∀ (Qe : K3), (∀ M4, Sub M M4 → Qe (f i d) M4) → wpG tn d M (wipe3 τ vs) fun τ2 => te τ2 M Qe)
    (hl : ds.length < PySem.sizeLine)
    (hQ : newL (ds.mapIdx f) M1 Q) : lcW ds keep tn vs (wpTO .no) te τ M1 Q := by
  refine lc_pure (fun i d => some (f i d)) hk (fun i d hd M sb Qe Qn h1 h2 => ?_) hl ?_
  · exact hf i d hd M sb _ fun M4 sb4 => h1 _ rfl M4 sb4
  · have e : (ds.mapIdx fun i d => some (f i d)).filterMap id = ds.mapIdx f := by
      clear hQ hf hk hl
      induction ds generalizing f with
      | nil => rfl
      | cons d ds ih => rw [List.mapIdx_cons, List.mapIdx_cons, List.filterMap_cons]; simp only [id]; rw [ih fun i => f (i + 1)]
    rw [e]; exact hQ
theorem filterMap_idx {α β : Type} (f : α → Option β) : ∀ (l : List α), (l.mapIdx fun _ a => f a).filterMap id = l.filterMap f
  | [] => rfl
  | a :: l => by
    rw [List.mapIdx_cons, List.filterMap_cons, List.filterMap_cons]
    have ih := filterMap_idx f l
    simp only [id] at ih ⊢
    cases h : f a <;> simp [ih]
/-- [e for x in xs if t], the items drawn from a plain list -/
theorem lc_fm {α : Type} (g : α → D) (l : List α) (f : α → Option D) {keep : Mp → Prop} {tn : Tn} {vs : List Nat} {tt : TT3} {te : TE3} {τ : S3} {M1 : Mp} {Q : K3}
    (hk : ∀ M, Sub M1 M → keep M)
    (hf : ∀ a, a ∈ l → ∀ M, Sub M1 M → ∀ (Qe : K3) (Qn : Mp → Prop), (∀ y, f a = some y → ∀ M4, Sub M M4 → Qe y M4) → (f a = none → ∀ M4, Sub M M4 → Qn M4) →
      wpG tn (g a) M (wipe3 τ vs) fun τ2 => tt τ2 M fun b M3 => if b = true then te τ2 M3 Qe else Qn M3)
    (hl : l.length < PySem.sizeLine)
    (hQ : newL (l.filterMap f) M1 Q) : lcW (l.map g) keep tn vs tt te τ M1 Q := by
  have ga : ∀ i d, (l.map g)[i]? = some d → ∃ a, l[i]? = some a ∧ g a = d := fun i d h => by
    rw [List.getElem?_map] at h
    cases e : l[i]? with
    | none => rw [e] at h; cases h
    | some a => rw [e] at h; cases h; exact ⟨a, e, rfl⟩
  refine lc_pure (fun i _ => (l[i]?).bind f) hk (fun i d hd M sb Qe Qn h1 h2 => ?_) (by rw [List.length_map]; exact hl) ?_
  · obtain ⟨a, ea, rfl⟩ := ga i d hd
    rw [ea] at h1 h2
    exact hf a (List.mem_of_getElem? ea) M sb Qe Qn h1 h2
  · have e : ((l.map g).mapIdx fun i _ => (l[i]?).bind f) = l.mapIdx fun _ a => f a := by
      apply List.ext_getElem?
      intro i
      rw [List.getElem?_mapIdx, List.getElem?_mapIdx, List.getElem?_map]
      cases l[i]? <;> rfl
    rw [e, filterMap_idx]
    exact hQ
/-- [e for x in xs] -/
theorem lc_mp {α : Type} (g : α → D) (l : List α) (f : α → D) {keep : Mp → Prop} {tn : Tn} {vs : List Nat} {te : TE3} {τ : S3} {M1 : Mp} {Q : K3}
    (hk : ∀ M, Sub M1 M → keep M)
    (hf : ∀ a, a ∈ l → ∀ M, Sub M1 M → ∀ (Qe : K3), (∀ M4, Sub M M4 → Qe (f a) M4) → wpG tn (g a) M (wipe3 τ vs) fun τ2 => te τ2 M Qe)
    (hl : l.length < PySem.sizeLine)
    (hQ : newL (l.map f) M1 Q) : lcW (l.map g) keep tn vs (fun _ M Q => Q true M) te τ M1 Q := by
  refine lc_fm g l (fun a => some (f a)) hk (fun a ha M sb Qe Qn h1 h2 => hf a ha M sb _ fun M4 sb4 => h1 _ rfl M4 sb4) hl ?_
  have e : l.filterMap (fun a => some (f a)) = l.map f := by
    clear hQ hf hl
    induction l with
    | nil => rfl
    | cons a l ih => rw [List.filterMap_cons, List.map_cons]; simp only []; rw [ih]
  rw [e]; exact hQ
theorem enumD_map {α : Type} (g : α → D) (l : List α) : enumD (l.map g) = l.zipIdx.map fun p => .tup [.int (p.2 : Nat), g p.1] := by
  unfold enumD
  apply List.ext_getElem?
  intro i
  rw [List.getElem?_mapIdx, List.getElem?_map, List.getElem?_map, List.getElem?_zipIdx]
  cases l[i]? with
  | none => rfl
  | some a => simp
theorem zipD_map {α β : Type} (g : α → D) (h : β → D) (l : List α) (m : List β) : zipD (l.map g) (m.map h) = (l.zip m).map fun p => .tup [g p.1, h p.2] := by
  unfold zipD
  rw [List.zip_map, List.map_map]
  rfl
end
end G3
set_option Elab.async false
set_option linter.all false
set_option maxRecDepth 100000
set_option maxHeartbeats 16000000
/-! the end: facts by names, of imported names too -/
namespace G3
open PySem PySem.Spec PyProof.Rows L2
/-- what the module's name stands for: a built-in that an import brought -/
def imB (K : PySem.W.Frag) (p : Str × String) : Bool := He.eqO (PySem.W.nsIn K mainGlobals p.1) (some (some (.builtin p.2)))
abbrev AlI : Type := He.AlD × Bool
def obsI (n : Nat) (fa : List He.Fa) (im : List (Str × String)) (fn : List He.DefD) (g : Addr → Option Obj) : AlI := (He.obsDG n fa fn g, im.all (imB (He.frG g (He.asD g n))))
def SaysI (fa : List He.Fa) (im : List (Str × String)) (fn : List He.DefD) (K : PySem.W.Frag) : Prop := He.SaysD fa fn K ∧ im.all (imB K) = true
def hookI (n : Nat) (fa : List He.Fa) (im : List (Str × String)) (fn : List He.DefD) : PySem.W.Hook where
  α := AlI
  obs := fun s => obsI n fa im fn s.heap.get?
  val := fun _ => (He.valD fn, true)
  says := fun _ h => ∃ K : PySem.W.Frag, K.In h ∧ SaysI fa im fn K
  of := fun _ _ e => ⟨_, He.frG_in, congrArg (fun z : AlI => z.1) e, congrArg (fun z : AlI => z.2) e⟩
  keeps := fun _ _ _ ⟨K, hK, c⟩ k => ⟨K, PySem.W.Frag.In.keeps hK k, c⟩
theorem obsI_eq {n : Nat} {fa : List He.Fa} {im : List (Str × String)} {fn : List He.DefD} {g : Addr → Option Obj} {s : Shared} (h : ∀ a, g a = s.heap.get? a) : obsI n fa im fn g = (hookI n fa im fn).obs s := by
  have e : g = s.heap.get? := funext h
  rw [e] <;> rfl
section
variable {fa : List He.Fa} {im : List (Str × String)} {fn : List He.DefD} {K : PySem.W.Frag} {h : Heap} {mg : Str → Option Value}
theorem factAll (c : SaysI fa im fn K) {f : He.Fa} (hf : f ∈ fa) : f.ok K = true := by
  have c1 := (He.ba (show ((fa.all fun f => f.ok K) && fn.all fun d => d.ok K) = true from congrArg (fun z : He.AlD => z.1) c.1)).1
  exact List.all_eq_true.mp c1 f hf
theorem free_all (X : K.In h) (G : h.Ns mainGlobals mg) (c : SaysI fa im fn K) {bl : List Str} (hb : ∀ x ∈ bl, He.Fa.free x ∈ fa) : ∀ x ∈ bl, mg x = none := fun x hx => He.free_ok X G (factAll c (hb x hx))
theorem im_all (X : K.In h) (G : h.Ns mainGlobals mg) (c : SaysI fa im fn K) : ∀ p ∈ im, mg p.1 = some (.builtin p.2) := fun p hp => PySem.W.mg_of X G (He.eqO_ok (List.all_eq_true.mp c.2 p hp))
theorem glo_at (X : K.In h) (G : h.Ns mainGlobals mg) (c : SaysI fa im fn K) {x : Str} (hx : He.Fa.glo x ∈ fa) : mg x = some (.ref (He.ga K x)) := He.glo_ok X G (factAll c hx)
end
def GoodL (good : String → Sp3 → Prop) : List (String × Sp3) → Prop
  | [] => True
  | p :: l => good p.1 p.2 ∧ GoodL good l
theorem GoodL.all {good : String → Sp3 → Prop} : ∀ {l : List (String × Sp3)}, GoodL good l → ∀ p ∈ l, good p.1 p.2
  | p :: l, ⟨h, t⟩, q, hq => by
    rcases List.mem_cons.mp hq with rfl | hq
    · exact h
    · exact GoodL.all t q hq
theorem good_no {P : Program} {w : World} {K : PySem.W.Frag} {mg : Str → Option Value} {base : Heap} {qual : Str} {params : Arguments} {bodyS : List Stmt} {scope : Scope} {kws : List (Str × V)} {f : Addr} {fd : FuncData} {ps : List Str} {nm : Str} {x : String}
    (F : FunD K nm qual params bodyS scope [] kws f fd) (hm : mg (Str.ofString x) = some (.ref f)) (hb : Binds K fd ps []) (sp : Sp3) (hn : ∀ ds M Q, ¬ sp ds M Q) : GoodG P w K mg base 0 x sp :=
  ⟨f, fd, ps, 0, Nat.le_refl _, ⟨fun _ _ _ _ ⟨_, _, _, _, _, h, _⟩ => (hn _ _ _ h).elim, fun _ _ _ _ _ _ _ _ _ _ _ _ _ ⟨_, _, _, _, _, h, _⟩ => (hn _ _ _ h).elim⟩, hm, F.kp, hb⟩
/-- a law's script, as it comes -/
theorem law_in {K : PySem.W.Frag} {H : Hp} {a : Addr} {ns : List Int} {sp : Sp3} (hO : Only H) (hS : SqL K H a (ns.map V.int)) (h : sp [.cl (ns.map .int)] (fun _ => none) fun d _ => d = .bl true) (E : XK) :
    liftSp K sp [.ref a] H (fun v _ => v = .bl true) E := by
  refine ⟨_, _, _, fun a o e => (by cases e), .cons (.cl ?_ (Reps.of_ints ns)) .nil, h, fun v H' d M' q _ _ r => ?_⟩
  · rcases hS with (hS | hS) | hS
    · rcases hO a with e | ⟨o, xs, e⟩
      · rw [e] at hS; cases hS
      · rw [e] at hS; cases hS
    · exact .inl hS
    · exact .inr hS
  · subst q
    cases r; rfl
end G3
set_option Elab.async false
set_option linter.all false
set_option maxRecDepth 100000
set_option maxHeartbeats 4000000
/-! the law's own helpers, alike in many laws -/
namespace G3w
open PySem PySem.Spec PyProof.Rows L2 G3
def n_height_at : List Str := ["wheels", "hour"]
def b_height_at : SL := (.cons (.ret (.bin .add (.ix (.ix (.v 0) (.c (.int 0))) (.bin .mod (.v 1) (.bi .len (.cons (.ix (.v 0) (.c (.int 0))) .nil)))) (.ix (.ix (.v 0) (.c (.int 1))) (.bin .mod (.v 1)
  (.bi .len (.cons (.ix (.v 0) (.c (.int 1))) .nil)))))) .nil)
def n_round_heights : List Str := ["wheels", "hour"]
def b_round_heights (sp_height_at : Sp3) : SL := (.cons (.ret (.lc [("hour", 1)] (.nm 1) (.rng1 (.bi .lcm (.cons (.bi .len (.cons (.ix (.v 0) (.c (.int 0))) .nil)) (.cons (.bi .len (.cons (.ix (.v 0)
  (.c (.int 1))) .nil)) .nil)))) .no (.call "height_at" sp_height_at (.cons (.v 0) (.cons (.v 1) .nil))))) .nil)
def n__law_draws : List Str := ["script", "many", "cells", "left", "draws", "k", "place", "cell", "mixed"]
def r2__law_draws : SL := (.cons (.ex (.me .reverse (.v 4) .nil)) (.cons (.ret (.v 4)) .nil))
def r1__law_draws : SL := (.cons (.set (.nm 3) (.bi .list (.cons (.v 2) .nil))) (.cons (.set (.nm 4) (.lst .nil)) (.cons (.for_ (.nm 5) (.rng1 (.v 1)) (.cons (.set (.nm 6) (.bin .mod (.bi .int (.cons
  (.v 5) .nil)) (.bi .len (.cons (.v 2) .nil)))) (.cons (.ite (.and (.cons (.cmp .ge (.ix (.v 2) (.v 6)) (.bin .pow (.c (.int 10)) (.c (.int 18)))) (.cons (.cmp .gt (.ix (.v 3) (.v 6)) (.c (.int 0)))
  .nil))) (.cons (.ex (.me .append (.v 4) (.cons (.bin .mod (.bi .int (.cons (.ix (.v 3) (.v 6)) .nil)) (.c (.int 1000))) .nil))) (.cons (.setSub (.v 3) (.v 6) (.bin .fdiv (.ix (.v 3) (.v 6)) (.c
  (.int 1000)))) .nil)) (.cons (.set (.nm 8) (.bin .mod (.bi .int (.cons (.bin .add (.bin .add (.bin .mul (.ix (.v 2) (.v 6)) (.c (.int 48271))) (.bin .mul (.v 5) (.c (.int 69621)))) (.c (.int 11)))
  .nil)) (.c (.int 2147483647)))) (.cons (.ex (.me .append (.v 4) (.cons (.bin .mod (.bi .int (.cons (.bin .add (.bin .add (.bin .mul (.v 8) (.v 8)) (.bin .mul (.c (.int 3)) (.v 8))) (.v 5)) .nil))
  (.c (.int 1000003))) .nil))) .nil))) .nil))) (r2__law_draws))))
def b__law_draws : SL := (.cons (.set (.nm 2) (.lc [("cell", 7)] (.nm 7) (.seq (.sl (.v 0) .no (.ex (.c (.int 63))))) .no (.bin .mod (.bi .int (.cons (.v 7) .nil)) (.bin .shl (.c (.int 1)) (.c (.int
  7200)))))) (.cons (.ite (.cmp .eq (.bi .len (.cons (.v 2) .nil)) (.c (.int 0))) (.cons (.ex (.me .append (.v 2) (.cons (.c (.int 0)) .nil))) .nil) .nil) (r1__law_draws)))
def n__law_take : List Str := ["draws", "many"]
def r1__law_take : SL := (.cons (.ret (.bin .mod (.bi .int (.cons (.me .pop (.v 0) .nil) .nil)) (.v 1))) .nil)
def b__law_take : SL := (.cons (.ite (.cmp .eq (.bi .len (.cons (.v 0) .nil)) (.c (.int 0))) (.cons (.ret (.c (.int 0))) .nil) .nil) (r1__law_take))
def n__law_pick : List Str := ["draws", "row"]
def b__law_pick (sp__law_take : Sp3) : SL := (.cons (.ret (.ix (.v 1) (.call "_law_take" sp__law_take (.cons (.v 0) (.cons (.bi .len (.cons (.v 1) .nil)) .nil))))) .nil)
def n__law_same : List Str := ["actual", "due", "k"]
def r2__law_same (sp__law_same : Sp3) : SL := (.cons (.ret (.cmp .nin (.c (.bl false)) (.lc [("k", 2)] (.nm 2) (.rng1 (.bi .len (.cons (.v 1) .nil))) .no (.call "_law_same" sp__law_same (.cons (.ix
  (.v 0) (.v 2)) (.cons (.ix (.v 1) (.v 2)) .nil)))))) .nil)
def r1__law_same (sp__law_same : Sp3) : SL := (.cons (.ite (.cmp .ne (.bi .len (.cons (.v 0) .nil)) (.bi .len (.cons (.v 1) .nil))) (.cons (.ret (.c (.bl false))) .nil) .nil) (r2__law_same
  sp__law_same))
def r5__law_same (sp__law_same : Sp3) : SL := (.cons (.ret (.cmp .eq (.v 0) (.v 1))) .nil)
def r4__law_same (sp__law_same : Sp3) : SL := (.cons (.ite (.or (.cons (.cmp .ne (.isi (.v 0) ["str"]) (.isi (.v 1) ["str"])) (.cons (.cmp .ne (.cmp .isN (.v 0) (.c .non)) (.cmp .isN (.v 1) (.c
  .non))) .nil))) (.cons (.ret (.c (.bl false))) .nil) .nil) (r5__law_same sp__law_same))
def r3__law_same (sp__law_same : Sp3) : SL := (.cons (.ite (.or (.cons (.cmp .ne (.isi (.v 0) ["bool"]) (.isi (.v 1) ["bool"])) (.cons (.cmp .ne (.isi (.v 0) ["int"]) (.isi (.v 1) ["int"])) .nil)))
  (.cons (.ret (.c (.bl false))) .nil) .nil) (r4__law_same sp__law_same))
def b__law_same (sp__law_same : Sp3) : SL := (.cons (.ite (.isi (.v 1) ["tuple", "list"]) (.cons (.ite (.or (.cons (.cmp .ne (.isi (.v 0) ["tuple"]) (.isi (.v 1) ["tuple"])) (.cons (.cmp .ne (.isi (.v
  0) ["list"]) (.isi (.v 1) ["list"])) .nil))) (.cons (.ret (.c (.bl false))) .nil) .nil) (r1__law_same sp__law_same)) .nil) (r3__law_same sp__law_same))
def n__law_gcd : List Str := ["one", "other", "a", "b", "turn", "c"]
def r1__law_gcd : SL := (.cons (.set (.nm 5) (.bin .mod (.bi .int (.cons (.v 2) .nil)) (.v 3))) (.cons (.set (.nm 2) (.v 3)) (.cons (.set (.nm 3) (.v 5)) .nil)))
def r2__law_gcd : SL := (.cons (.ret (.v 2)) .nil)
def b__law_gcd : SL := (.cons (.set (.nm 2) (.bi .abs (.cons (.v 0) .nil))) (.cons (.set (.nm 3) (.bi .abs (.cons (.v 1) .nil))) (.cons (.for_ (.nm 4) (.rng1 (.c (.int 20000))) (.cons (.ite (.cmp .eq
  (.v 3) (.c (.int 0))) (.cons .brk .nil) .nil) (r1__law_gcd))) (r2__law_gcd))))
def n__law_tide_number : List Str := ["draws", "small"]
def r1__law_tide_number (sp__law_pick : Sp3) (sp__law_take : Sp3) : SL := (.cons (.ret (.bin .add (.v 1) (.bin .mul (.call "_law_pick" sp__law_pick (.cons (.v 0) (.cons (.lst (.cons (.c (.int
  1000003)) (.cons (.bin .add (.bin .pow (.c (.int 10)) (.c (.int 17))) (.c (.int 3))) (.cons (.bin .add (.bin .pow (.c (.int 10)) (.c (.int 40))) (.c (.int 121))) .nil)))) .nil))) (.bin .sub (.c
  (.int 1)) (.bin .mul (.c (.int 2)) (.call "_law_take" sp__law_take (.cons (.v 0) (.cons (.c (.int 2)) .nil)))))))) .nil)
def b__law_tide_number (sp__law_pick : Sp3) (sp__law_take : Sp3) : SL := (.cons (.set (.nm 1) (.bin .sub (.call "_law_take" sp__law_take (.cons (.v 0) (.cons (.c (.int 16)) .nil))) (.c (.int 6))))
  (.cons (.ite (.cmp .gt (.call "_law_take" sp__law_take (.cons (.v 0) (.cons (.c (.int 10)) .nil))) (.c (.int 0))) (.cons (.ret (.v 1)) .nil) .nil) (r1__law_tide_number sp__law_pick sp__law_take)))
def n__law_tide_period : List Str := ["draws"]
def r1__law_tide_period (sp__law_take : Sp3) : SL := (.cons (.ret (.bin .add (.c (.int 1)) (.call "_law_take" sp__law_take (.cons (.v 0) (.cons (.c (.int 6)) .nil))))) .nil)
def b__law_tide_period (sp__law_take : Sp3) : SL := (.cons (.ite (.cmp .eq (.call "_law_take" sp__law_take (.cons (.v 0) (.cons (.c (.int 8)) .nil))) (.c (.int 0))) (.cons (.ret (.bin .add (.c (.int
  1)) (.call "_law_take" sp__law_take (.cons (.v 0) (.cons (.c (.int 24)) .nil))))) .nil) .nil) (r1__law_tide_period sp__law_take))
def n__law_tide_hour : List Str := ["draws", "few"]
def r1__law_tide_hour (sp__law_take : Sp3) (sp__law_pick : Sp3) : SL := (.cons (.ret (.call "_law_take" sp__law_take (.cons (.v 0) (.cons (.v 1) .nil)))) .nil)
def b__law_tide_hour (sp__law_take : Sp3) (sp__law_pick : Sp3) : SL := (.cons (.ite (.cmp .eq (.call "_law_take" sp__law_take (.cons (.v 0) (.cons (.c (.int 7)) .nil))) (.c (.int 0))) (.cons (.ret
  (.bin .add (.call "_law_pick" sp__law_pick (.cons (.v 0) (.cons (.lst (.cons (.bin .pow (.c (.int 10)) (.c (.int 6))) (.cons (.bin .add (.bin .pow (.c (.int 10)) (.c (.int 18))) (.c (.int 9)))
  (.cons (.bin .add (.bin .pow (.c (.int 10)) (.c (.int 45))) (.c (.int 7))) .nil)))) .nil))) (.call "_law_take" sp__law_take (.cons (.v 0) (.cons (.c (.int 700)) .nil))))) .nil) .nil)
  (r1__law_tide_hour sp__law_take sp__law_pick))
def n__law_tide_wheels : List Str := ["draws", "p", "q", "first", "k"]
def b__law_tide_wheels (sp__law_tide_number : Sp3) : SL := (.cons (.set (.nm 3) (.bi .tuple (.cons (.lc [("k", 4)] (.nm 4) (.rng1 (.v 1)) .no (.call "_law_tide_number" sp__law_tide_number (.cons (.v
  0) .nil))) .nil))) (.cons (.ret (.tup (.cons (.v 3) (.cons (.bi .tuple (.cons (.lc [("k", 4)] (.nm 4) (.rng1 (.v 2)) .no (.call "_law_tide_number" sp__law_tide_number (.cons (.v 0) .nil))) .nil))
  .nil)))) .nil))
def n__law_tide_height : List Str := ["wheels", "hour"]
def b__law_tide_height : SL := (.cons (.ret (.bin .add (.ix (.ix (.v 0) (.c (.int 0))) (.bin .mod (.bi .int (.cons (.v 1) .nil)) (.bi .len (.cons (.ix (.v 0) (.c (.int 0))) .nil)))) (.ix (.ix (.v 0)
  (.c (.int 1))) (.bin .mod (.bi .int (.cons (.v 1) .nil)) (.bi .len (.cons (.ix (.v 0) (.c (.int 1))) .nil)))))) .nil)
def n__law_tide_round : List Str := ["wheels", "p", "q", "k"]
def b__law_tide_round (sp__law_gcd : Sp3) (sp__law_tide_height : Sp3) : SL := (.cons (.set (.nm 1) (.bi .len (.cons (.ix (.v 0) (.c (.int 0))) .nil))) (.cons (.set (.nm 2) (.bi .len (.cons (.ix (.v 0)
  (.c (.int 1))) .nil))) (.cons (.ret (.lc [("k", 3)] (.nm 3) (.rng1 (.bin .fdiv (.bin .mul (.v 1) (.v 2)) (.call "_law_gcd" sp__law_gcd (.cons (.v 1) (.cons (.v 2) .nil))))) .no (.call
  "_law_tide_height" sp__law_tide_height (.cons (.v 0) (.cons (.v 3) .nil))))) .nil)))
def n__law_low_wheels : List Str := ["draws", "p", "q", "first", "k"]
def b__law_low_wheels (sp__law_take : Sp3) : SL := (.cons (.set (.nm 3) (.bi .tuple (.cons (.lc [("k", 4)] (.nm 4) (.rng1 (.v 1)) .no (.call "_law_take" sp__law_take (.cons (.v 0) (.cons (.c (.int 3))
  .nil)))) .nil))) (.cons (.ret (.tup (.cons (.v 3) (.cons (.bi .tuple (.cons (.lc [("k", 4)] (.nm 4) (.rng1 (.v 2)) .no (.call "_law_take" sp__law_take (.cons (.v 0) (.cons (.c (.int 2)) .nil))))
  .nil)) .nil)))) .nil))
end G3w
namespace G3w
open G3 L2
abbrev K3 := G3.K3
abbrev Addr := PySem.Addr
theorem sline : PySem.sizeLine = 16777216 := PySem.sizeLine_eq
theorem newL_wk {l : List D} {M : Mp} {Q : K3} (h : newL l M Q) : newL l M fun d M' => wk (Q d) M' := fun p hp => .of (h p hp)
def encI (l : List Int) : D := .tup (l.map .int)
def whl (w0 w1 : List Int) : D := .tup [encI w0, encI w1]
def getW (l : List Int) (i : Int) : Int := getZ l (i % l.length)
def hgt (w0 w1 : List Int) (t : Int) : Int := getW w0 t + getW w1 t
def sp_height_at : Sp3 := fun ds M Q => ∃ w0 w1 t, ds = [whl w0 w1, .int t] ∧ w0 ≠ [] ∧ w1 ≠ [] ∧ Q (.int (hgt w0 w1 t)) M
theorem emod_in {t : Int} {l : List Int} (h : l ≠ []) : (0 : Int) < l.length ∧ 0 ≤ t % l.length ∧ t % l.length < l.length := by
  have : 0 < l.length := List.length_pos_iff.mpr h
  have h0 : (0 : Int) < l.length := by omega
  exact ⟨h0, Int.emod_nonneg _ (by omega), Int.emod_lt_of_pos _ h0⟩
theorem t_height_at : ∀ ds M Q, sp_height_at ds M Q → G3.wpSs b_height_at (rets Q) (st3 n_height_at.length ds) M := by
  rintro ds M Q ⟨w0, w1, t, rfl, h0, h1, q⟩
  obtain ⟨a1, a2, a3⟩ := emod_in (t := t) h0
  obtain ⟨b1, b2, b3⟩ := emod_in (t := t) h1
  simp only [n_height_at, b_height_at, whl, encI, G3.wpSs, G3.wpS, G3.wpE, G3.wpEL, G3.wpO, G3.wpTO, G3.wpT, G3.wpAnd, G3.wpOr, G3.wpAndT, G3.wpOrT, G3.wpI, G3.wpG, G3.wpGs, G3.wipe3, G3.st3, G3.bi3, G3.me3, G3.Me.ty, G3.rets, some3_some, some3_none, atI0, atI1, atI2, atI3, ix3_tup, ix3_cl, getR3_ref, len3_tup, len3_cl, G3.add_int, add_tup, G3.sub_int, G3.mul_int, fdiv_int, G3.mod_int, pow_int, shl_int, aadd_int, asub_int, G3.eq_int, G3.ne_int, G3.lt_int, G3.le_int, G3.gt_int, G3.ge_int, isN_, notN_, inn_, nin_, in3_tup, isNon_int, isNon_non, isNon_tup, isNon_ref, isB3_bl, isI_int, one_, two_, tru_bl, tru_int, tru_non, tru_tup, int3_int, int3_bl, seqAt_tup, listAt_cl, list3_tup, sl3_tup, sl3_cl, neg3_int, seqI_tup, seqI_cl, zip3_tup, chain_t, chain_f, Option.bind_some, List.map_cons, List.map_nil, List.length_cons, List.length_nil, List.length_map, List.length_replicate, List.length_append, List.replicate, List.cons_append, List.nil_append, List.append_nil, Nat.sub_self, List.getElem?_cons_zero, List.getElem?_cons_succ, List.set_cons_zero, List.set_cons_succ, Nat.reduceAdd, Nat.reduceSub, Nat.zero_add, Option.getD_some, Bool.not_true, Bool.not_false, if_true, if_false, ite_true, ite_false, Bool.false_eq_true, reduceIte, decide_eq_true_eq, true_and, and_true]
  rw [atI_ints a2 a3, atI_ints b2 b3]
  simp only [G3.wpSs, G3.wpS, G3.wpE, G3.wpEL, G3.wpO, G3.wpTO, G3.wpT, G3.wpAnd, G3.wpOr, G3.wpAndT, G3.wpOrT, G3.wpI, G3.wpG, G3.wpGs, G3.wipe3, G3.st3, G3.bi3, G3.me3, G3.Me.ty, G3.rets, some3_some, some3_none, atI0, atI1, atI2, atI3, ix3_tup, ix3_cl, getR3_ref, len3_tup, len3_cl, G3.add_int, add_tup, G3.sub_int, G3.mul_int, fdiv_int, G3.mod_int, pow_int, shl_int, aadd_int, asub_int, G3.eq_int, G3.ne_int, G3.lt_int, G3.le_int, G3.gt_int, G3.ge_int, isN_, notN_, inn_, nin_, in3_tup, isNon_int, isNon_non, isNon_tup, isNon_ref, isB3_bl, isI_int, one_, two_, tru_bl, tru_int, tru_non, tru_tup, int3_int, int3_bl, seqAt_tup, listAt_cl, list3_tup, sl3_tup, sl3_cl, neg3_int, seqI_tup, seqI_cl, zip3_tup, chain_t, chain_f, Option.bind_some, List.map_cons, List.map_nil, List.length_cons, List.length_nil, List.length_map, List.length_replicate, List.length_append, List.replicate, List.cons_append, List.nil_append, List.append_nil, Nat.sub_self, List.getElem?_cons_zero, List.getElem?_cons_succ, List.set_cons_zero, List.set_cons_succ, Nat.reduceAdd, Nat.reduceSub, Nat.zero_add, Option.getD_some, Bool.not_true, Bool.not_false, if_true, if_false, ite_true, ite_false, Bool.false_eq_true, reduceIte, decide_eq_true_eq, true_and, and_true]
  exact ⟨a1, b1, .of q⟩
def lcmN (w0 w1 : List Int) : Nat := Nat.lcm w0.length w1.length
def rh (w0 w1 : List Int) : List Int := (List.range (lcmN w0 w1)).map fun (k : Nat) => hgt w0 w1 k
theorem lcm_le {w0 w1 : List Int} (l0 : w0.length ≤ 100) (l1 : w1.length ≤ 100) : lcmN w0 w1 ≤ 10000 := by
  unfold lcmN Nat.lcm
  exact Nat.le_trans (Nat.div_le_self _ _) (Nat.mul_le_mul l0 l1)
theorem lcm_pos {w0 w1 : List Int} (h0 : w0 ≠ []) (h1 : w1 ≠ []) : 0 < lcmN w0 w1 := Nat.lcm_pos (List.length_pos_iff.mpr h0) (List.length_pos_iff.mpr h1)
theorem rh_len {w0 w1 : List Int} : (rh w0 w1).length = lcmN w0 w1 := by unfold rh; rw [List.length_map, List.length_range]
/-- wheels -/
structure Wh (w0 w1 : List Int) : Prop where
  h0 : w0 ≠ []
  h1 : w1 ≠ []
  l0 : w0.length ≤ 100
  l1 : w1.length ≤ 100
theorem Wh.rlen {w0 w1 : List Int} (w : Wh w0 w1) : (rh w0 w1).length ≤ 10000 ∧ 0 < (rh w0 w1).length := by
  rw [rh_len]; exact ⟨lcm_le w.l0 w.l1, lcm_pos w.h0 w.h1⟩
def sp_round_heights : Sp3 := fun ds M Q => ∃ w0 w1, ds = [whl w0 w1] ∧ Wh w0 w1 ∧ newL ((rh w0 w1).map .int) M Q
theorem t_round_heights : ∀ ds M Q, sp_round_heights ds M Q → G3.wpSs (b_round_heights sp_height_at) (rets Q) (st3 n_round_heights.length ds) M := by
  rintro ds M Q ⟨w0, w1, rfl, w, q⟩
  have hl := lcm_le w.l0 w.l1
  have l0 := w.l0
  have l1 := w.l1
  simp only [n_round_heights, b_round_heights, whl, encI, Int.natAbs_natCast, Int.toNat_natCast, G3.wpSs, G3.wpS, G3.wpE, G3.wpEL, G3.wpO, G3.wpTO, G3.wpT, G3.wpAnd, G3.wpOr, G3.wpAndT, G3.wpOrT, G3.wpI, G3.wpG, G3.wpGs, G3.wipe3, G3.st3, G3.bi3, G3.me3, G3.Me.ty, G3.rets, some3_some, some3_none, atI0, atI1, atI2, atI3, ix3_tup, ix3_cl, getR3_ref, len3_tup, len3_cl, G3.add_int, add_tup, G3.sub_int, G3.mul_int, fdiv_int, G3.mod_int, pow_int, shl_int, aadd_int, asub_int, G3.eq_int, G3.ne_int, G3.lt_int, G3.le_int, G3.gt_int, G3.ge_int, isN_, notN_, inn_, nin_, in3_tup, isNon_int, isNon_non, isNon_tup, isNon_ref, isB3_bl, isI_int, one_, two_, tru_bl, tru_int, tru_non, tru_tup, int3_int, int3_bl, seqAt_tup, listAt_cl, list3_tup, sl3_tup, sl3_cl, neg3_int, seqI_tup, seqI_cl, zip3_tup, chain_t, chain_f, Option.bind_some, List.map_cons, List.map_nil, List.length_cons, List.length_nil, List.length_map, List.length_replicate, List.length_append, List.replicate, List.cons_append, List.nil_append, List.append_nil, Nat.sub_self, List.getElem?_cons_zero, List.getElem?_cons_succ, List.set_cons_zero, List.set_cons_succ, Nat.reduceAdd, Nat.reduceSub, Nat.zero_add, Option.getD_some, Bool.not_true, Bool.not_false, if_true, if_false, ite_true, ite_false, Bool.false_eq_true, reduceIte, decide_eq_true_eq, true_and, and_true]
  refine ⟨by omega, by omega, by omega, ?_, ?_⟩
  · unfold lcmN at hl; omega
  · refine lc_mp (fun k : Nat => .int (0 + k * 1)) (List.range (lcmN w0 w1)) (fun k : Nat => .int (hgt w0 w1 k)) (fun _ _ => trivial) (fun k hk M' sb Qe h => ?_) (by rw [List.length_range, sline]; omega) (newL_wk ?_)
    · simp only [G3.wpSs, G3.wpS, G3.wpE, G3.wpEL, G3.wpO, G3.wpTO, G3.wpT, G3.wpAnd, G3.wpOr, G3.wpAndT, G3.wpOrT, G3.wpI, G3.wpG, G3.wpGs, G3.wipe3, G3.st3, G3.bi3, G3.me3, G3.Me.ty, G3.rets, some3_some, some3_none, atI0, atI1, atI2, atI3, ix3_tup, ix3_cl, getR3_ref, len3_tup, len3_cl, G3.add_int, add_tup, G3.sub_int, G3.mul_int, fdiv_int, G3.mod_int, pow_int, shl_int, aadd_int, asub_int, G3.eq_int, G3.ne_int, G3.lt_int, G3.le_int, G3.gt_int, G3.ge_int, isN_, notN_, inn_, nin_, in3_tup, isNon_int, isNon_non, isNon_tup, isNon_ref, isB3_bl, isI_int, one_, two_, tru_bl, tru_int, tru_non, tru_tup, int3_int, int3_bl, seqAt_tup, listAt_cl, list3_tup, sl3_tup, sl3_cl, neg3_int, seqI_tup, seqI_cl, zip3_tup, chain_t, chain_f, Option.bind_some, List.map_cons, List.map_nil, List.length_cons, List.length_nil, List.length_map, List.length_replicate, List.length_append, List.replicate, List.cons_append, List.nil_append, List.append_nil, Nat.sub_self, List.getElem?_cons_zero, List.getElem?_cons_succ, List.set_cons_zero, List.set_cons_succ, Nat.reduceAdd, Nat.reduceSub, Nat.zero_add, Option.getD_some, Bool.not_true, Bool.not_false, if_true, if_false, ite_true, ite_false, Bool.false_eq_true, reduceIte, decide_eq_true_eq, true_and, and_true]
      refine ⟨w0, w1, _, rfl, w.h0, w.h1, ?_⟩
      rw [Int.mul_one, Int.zero_add]
      exact h _ .refl
    · unfold rh at q
      rw [List.map_map] at q
      exact q
theorem set_map {l : List Int} {k : Nat} {v : Int} : (l.map D.int).set k (.int v) = (l.set k v).map .int := by rw [List.map_set]
theorem flat_rep {n : Nat} {d : D} : (List.replicate n [d]).flatten = List.replicate n d := by
  induction n with
  | zero => rfl
  | succ n ih => rw [List.replicate_succ, List.flatten_cons, ih, List.replicate_succ]; rfl
theorem _root_.G3.Sub.put_free {M M' : Mp} {t : Addr} {o : MO} (s : Sub M M') (h : M t = none) : Sub M (put M' t o) := fun a u e => by
  rw [put_ne (fun z => by subst z; rw [h] at e; cases e)]; exact s _ _ e
theorem DivOk_small {n : Int} (h : 0 < n) (h2 : n ≤ 10000) : DivOk n := ⟨h, .inl (by omega)⟩
theorem MulOk_small {i n : Int} (h : 0 ≤ n) (h2 : n ≤ 100000000) : MulOk i n := .inr (.inl ⟨by omega, by omega⟩)
/-! ### draws -/
def sp__law_draws : Sp3 := fun ds M Q => ∃ (ns : List Int) (m : Nat), ds = [.cl (ns.map .int), .int m] ∧ ns.length ≤ 63 ∧ m ≤ 100000 ∧ ∀ xs : List Int, newL (xs.map .int) M Q
theorem cut_map {α : Type} (g : α → D) (l : List α) (lo hi : Option Int) : ∃ l' : List α, cutD (l.map g) lo hi = l'.map g ∧ l'.length ≤ l.length := by
  unfold cutD
  rw [List.length_map]
  exact ⟨(l.drop (HT.sIx l.length 0 lo)).take (HT.sIx l.length l.length hi - HT.sIx l.length 0 lo), by rw [List.map_take, List.map_drop], by rw [List.length_take, List.length_drop]; omega⟩
/-- the loop's word -/
def drI (s0 s1 : Option D) (cs : List Int) (c f d : Addr) (M : Mp) (i : Nat) (τ : S3) (M' : Mp) : Prop :=
  ∃ (ls xs : List Int) (a b e k : Option D), τ = [s0, s1, some (.ref c), some (.ref f), some (.ref d), a, b, e, k] ∧ M' c = some (.lst (cs.map .int)) ∧ M' f = some (.lst (ls.map .int)) ∧ M' d = some (.lst (xs.map .int)) ∧ ls.length = cs.length ∧ xs.length = i ∧ Sub M M'
theorem pow_bound : (2 : Int) ^ Int.toNat 7200 > 0 := Int.pow_pos (by decide)
theorem set_int {l : List Int} {k : Nat} {v : Int} : (l.map D.int).set k (.int v) = (l.set k v).map .int := by rw [List.map_set]
theorem snoc_int {l : List Int} {v : Int} : l.map D.int ++ [.int v] = (l ++ [v]).map .int := by rw [List.map_append]; rfl
theorem t__law_draws : ∀ ds M Q, sp__law_draws ds M Q → G3.wpSs b__law_draws (rets Q) (st3 n__law_draws.length ds) M := by
  rintro ds M Q ⟨ns, m, rfl, hn, hm, q⟩
  have key : ∀ (cs : List Int) (c : Addr) (M1 : Mp) (a b e f g h : Option D), cs ≠ [] → cs.length ≤ 100 → M c = none → M1 c = some (.lst (cs.map .int)) → Sub M M1 → G3.wpSs r1__law_draws (rets Q) [some (.cl (ns.map .int)), some (.int m), some (.ref c), a, b, e, f, g, h] M1 := by
    intro cs c M1 a b e f g h hc hl fc ec sb
    simp only [r1__law_draws, r2__law_draws, list3_ref ec, G3.wpSs, G3.wpS, G3.wpE, G3.wpEL, G3.wpO, G3.wpTO, G3.wpT, G3.wpAnd, G3.wpOr, G3.wpAndT, G3.wpOrT, G3.wpI, G3.wpG, G3.wpGs, G3.wipe3, G3.st3, G3.bi3, G3.me3, G3.Me.ty, G3.rets, some3_some, some3_none, atI0, atI1, atI2, atI3, ix3_tup, ix3_cl, getR3_ref, len3_tup, len3_cl, G3.add_int, add_tup, G3.sub_int, G3.mul_int, fdiv_int, G3.mod_int, pow_int, shl_int, aadd_int, asub_int, G3.eq_int, G3.ne_int, G3.lt_int, G3.le_int, G3.gt_int, G3.ge_int, isN_, notN_, inn_, nin_, in3_tup, isNon_int, isNon_non, isNon_tup, isNon_ref, isB3_bl, isI_int, one_, two_, tru_bl, tru_int, tru_non, tru_tup, int3_int, int3_bl, seqAt_tup, listAt_cl, list3_tup, sl3_tup, sl3_cl, neg3_int, seqI_tup, seqI_cl, zip3_tup, chain_t, chain_f, Option.bind_some, List.map_cons, List.map_nil, List.length_cons, List.length_nil, List.length_map, List.length_replicate, List.length_append, List.replicate, List.cons_append, List.nil_append, List.append_nil, Nat.sub_self, List.getElem?_cons_zero, List.getElem?_cons_succ, List.set_cons_zero, List.set_cons_succ, Nat.reduceAdd, Nat.reduceSub, Nat.zero_add, Option.getD_some, Bool.not_true, Bool.not_false, if_true, if_false, ite_true, ite_false, Bool.false_eq_true, reduceIte, decide_eq_true_eq, true_and, and_true]
    intro fp hf
    have ef : put M1 fp (.lst (cs.map .int)) fp = some (.lst (cs.map .int)) := put_same
    have ec1 : put M1 fp (.lst (cs.map .int)) c = some (.lst (cs.map .int)) := put_keep ec hf
    intro dp hd
    have ed := put_same (M := put M1 fp (.lst (cs.map .int))) (a := dp) (o := .lst [])
    have ef2 := put_keep (o' := .lst []) ef hd
    have ec2 := put_keep (o' := .lst []) ec1 hd
    have n1 : c ≠ fp := ne_of_put (o' := .lst []) ec hf
    have n2 : c ≠ dp := ne_of_put (o' := .lst []) ec1 hd
    have n3 : fp ≠ dp := ne_of_put (o' := .lst []) ef hd
    have ffp : M fp = none := by
      cases z : M fp with
      | none => rfl
      | some o => rw [sb _ _ z] at hf; cases hf
    have fdp : M dp = none := by
      obtain ⟨d1, _⟩ := put_free hd
      cases z : M dp with
      | none => rfl
      | some o => rw [sb _ _ z] at d1; cases d1
    have sb2 : Sub M (put (put M1 fp (.lst (cs.map .int))) dp (.lst [])) := (sb.trans (.new hf)).trans (.new hd)
    refine ⟨by omega, by omega, drI (some (.cl (ns.map .int))) (some (.int m)) cs c fp dp M, ⟨cs, [], _, _, _, _, rfl, ec2, ef2, ed, rfl, rfl, sb2⟩, ?_⟩
    rintro i τ M' ⟨ls, xs, a, b, e, k, rfl, gc, gf, gd, hls, hxs, sb3⟩ hi
    rw [rgD_length] at hi ⊢
    refine ⟨trivial, fun d hd => ?_, fun e => ?_⟩
    · obtain ⟨hi2, rfl⟩ := rgD_get hd
      have hp : 0 < cs.length := List.length_pos_iff.mpr hc
      have m0 := Int.emod_nonneg (0 + (i : Nat) * 1 : Int) (show (cs.length : Int) ≠ 0 by omega)
      have m1 := Int.emod_lt_of_pos (0 + (i : Nat) * 1 : Int) (show (0 : Int) < cs.length by omega)
      simp only [len3_ref gc, ix3_intsL gc m0 m1, ix3_intsL gf m0 (show _ < (ls.length : Int) by omega), isTyM_ref gd, refL_ref gd, G3.wpSs, G3.wpS, G3.wpE, G3.wpEL, G3.wpO, G3.wpTO, G3.wpT, G3.wpAnd, G3.wpOr, G3.wpAndT, G3.wpOrT, G3.wpI, G3.wpG, G3.wpGs, G3.wipe3, G3.st3, G3.bi3, G3.me3, G3.Me.ty, G3.rets, some3_some, some3_none, atI0, atI1, atI2, atI3, ix3_tup, ix3_cl, getR3_ref, len3_tup, len3_cl, G3.add_int, add_tup, G3.sub_int, G3.mul_int, fdiv_int, G3.mod_int, pow_int, shl_int, aadd_int, asub_int, G3.eq_int, G3.ne_int, G3.lt_int, G3.le_int, G3.gt_int, G3.ge_int, isN_, notN_, inn_, nin_, in3_tup, isNon_int, isNon_non, isNon_tup, isNon_ref, isB3_bl, isI_int, one_, two_, tru_bl, tru_int, tru_non, tru_tup, int3_int, int3_bl, seqAt_tup, listAt_cl, list3_tup, sl3_tup, sl3_cl, neg3_int, seqI_tup, seqI_cl, zip3_tup, chain_t, chain_f, Option.bind_some, List.map_cons, List.map_nil, List.length_cons, List.length_nil, List.length_map, List.length_replicate, List.length_append, List.replicate, List.cons_append, List.nil_append, List.append_nil, Nat.sub_self, List.getElem?_cons_zero, List.getElem?_cons_succ, List.set_cons_zero, List.set_cons_succ, Nat.reduceAdd, Nat.reduceSub, Nat.zero_add, Option.getD_some, Bool.not_true, Bool.not_false, if_true, if_false, ite_true, ite_false, Bool.false_eq_true, reduceIte, decide_eq_true_eq, true_and, and_true]
      generalize (0 + (i : Nat) * 1 : Int) % (cs.length : Int) = j at *
      have kl : ((0 + (i : Nat) * 1 : Int)) = i := by omega
      rw [kl]
      have em : ∀ v : Int, drI (some (.cl (ns.map .int))) (some (.int m)) cs c fp dp M (i + 1) [some (.cl (ns.map .int)), some (.int m), some (.ref c), some (.ref fp), some (.ref dp), some (.int (i : Nat)), some (.int j), e, some (.int v)] (put M' dp (.lst (xs.map .int ++ [.int ((v * v + 3 * v + (i : Nat)) % 1000003)]))) := by
        intro v
        refine ⟨ls, xs ++ [(v * v + 3 * v + (i : Nat)) % 1000003], _, _, _, _, rfl, ?_, ?_, ?_, hls, by rw [List.length_append, hxs]; rfl, sb3.put_free fdp⟩
        · rw [put_ne n2]; exact gc
        · rw [put_ne n3]; exact gf
        · rw [put_same, snoc_int]
      have el : (0 : Int) < cs.length ∧ xs.length < PySem.sizeLine := ⟨by omega, by rw [sline]; omega⟩
      have elseB : ∀ v : Int, v = (getZ cs j * 48271 + (i : Nat) * 69621 + 11) % 2147483647 → MulOk (getZ cs j) 48271 ∧ MulOk (i : Nat) 69621 ∧ 0 < (2147483647 : Int) ∧ MulOk v v ∧ MulOk 3 v ∧ 0 < (1000003 : Int) ∧ xs.length < PySem.sizeLine ∧ wk (drI (some (.cl (ns.map .int))) (some (.int m)) cs c fp dp M (i + 1) [some (.cl (ns.map .int)), some (.int m), some (.ref c), some (.ref fp), some (.ref dp), some (.int (i : Nat)), some (.int j), e, some (.int v)]) (put M' dp (.lst (xs.map .int ++ [.int ((v * v + 3 * v + (i : Nat)) % 1000003)]))) := by
        intro v hv
        have v0 : 0 ≤ v := by rw [hv]; exact Int.emod_nonneg _ (by decide)
        have v1 : v < 2147483647 := by rw [hv]; exact Int.emod_lt_of_pos _ (by decide)
        exact ⟨MulOk_small (by decide) (by decide), MulOk_small (by decide) (by decide), by decide, .inl ⟨by omega, by omega⟩, .inl ⟨by decide, by decide⟩, by decide, el.2, .of (em v)⟩
      refine ⟨el.1, by unfold CPow; decide, ?_⟩
      by_cases c1 : (10 : Int) ^ Int.toNat 18 ≤ getZ cs j
      · rw [if_pos c1]
        by_cases c2 : 0 < getZ ls j
        · rw [if_pos c2]
          refine ⟨by decide, el.2, ?_⟩
          rw [ix3_intsL (M := put M' dp _) (p := fp) (ns := ls) (by rw [put_ne n3]; exact gf) m0 (by omega)]
          simp only [G3.wpSs, G3.wpS, G3.wpE, G3.wpEL, G3.wpO, G3.wpTO, G3.wpT, G3.wpAnd, G3.wpOr, G3.wpAndT, G3.wpOrT, G3.wpI, G3.wpG, G3.wpGs, G3.wipe3, G3.st3, G3.bi3, G3.me3, G3.Me.ty, G3.rets, some3_some, some3_none, atI0, atI1, atI2, atI3, ix3_tup, ix3_cl, getR3_ref, len3_tup, len3_cl, G3.add_int, add_tup, G3.sub_int, G3.mul_int, fdiv_int, G3.mod_int, pow_int, shl_int, aadd_int, asub_int, G3.eq_int, G3.ne_int, G3.lt_int, G3.le_int, G3.gt_int, G3.ge_int, isN_, notN_, inn_, nin_, in3_tup, isNon_int, isNon_non, isNon_tup, isNon_ref, isB3_bl, isI_int, one_, two_, tru_bl, tru_int, tru_non, tru_tup, int3_int, int3_bl, seqAt_tup, listAt_cl, list3_tup, sl3_tup, sl3_cl, neg3_int, seqI_tup, seqI_cl, zip3_tup, chain_t, chain_f, Option.bind_some, List.map_cons, List.map_nil, List.length_cons, List.length_nil, List.length_map, List.length_replicate, List.length_append, List.replicate, List.cons_append, List.nil_append, List.append_nil, Nat.sub_self, List.getElem?_cons_zero, List.getElem?_cons_succ, List.set_cons_zero, List.set_cons_succ, Nat.reduceAdd, Nat.reduceSub, Nat.zero_add, Option.getD_some, Bool.not_true, Bool.not_false, if_true, if_false, ite_true, ite_false, Bool.false_eq_true, reduceIte, decide_eq_true_eq, true_and, and_true]
          refine ⟨⟨by decide, .inl (by decide)⟩, ?_⟩
          rw [set3_ref (l := ls.map .int) (by rw [put_ne n3]; exact gf), ixN_in m0 (by rw [List.length_map]; omega), some3_some, set_int]
          refine .of ⟨ls.set j.toNat (getZ ls j / 1000), xs ++ [getZ ls j % 1000], _, _, _, _, rfl, ?_, ?_, ?_, by rw [List.length_set]; exact hls, by rw [List.length_append, hxs]; rfl, (sb3.put_free fdp).put_free ffp⟩
          · rw [put_ne n1, put_ne n2]; exact gc
          · rw [put_same]
          · rw [put_ne (Ne.symm n3), put_same, snoc_int]
        · rw [if_neg c2]
          exact elseB _ rfl
      · rw [if_neg c1]
        exact elseB _ rfl
    · refine .of ?_
      simp only [isTyM_ref gd, refL_ref gd, G3.wpSs, G3.wpS, G3.wpE, G3.wpEL, G3.wpO, G3.wpTO, G3.wpT, G3.wpAnd, G3.wpOr, G3.wpAndT, G3.wpOrT, G3.wpI, G3.wpG, G3.wpGs, G3.wipe3, G3.st3, G3.bi3, G3.me3, G3.Me.ty, G3.rets, some3_some, some3_none, atI0, atI1, atI2, atI3, ix3_tup, ix3_cl, getR3_ref, len3_tup, len3_cl, G3.add_int, add_tup, G3.sub_int, G3.mul_int, fdiv_int, G3.mod_int, pow_int, shl_int, aadd_int, asub_int, G3.eq_int, G3.ne_int, G3.lt_int, G3.le_int, G3.gt_int, G3.ge_int, isN_, notN_, inn_, nin_, in3_tup, isNon_int, isNon_non, isNon_tup, isNon_ref, isB3_bl, isI_int, one_, two_, tru_bl, tru_int, tru_non, tru_tup, int3_int, int3_bl, seqAt_tup, listAt_cl, list3_tup, sl3_tup, sl3_cl, neg3_int, seqI_tup, seqI_cl, zip3_tup, chain_t, chain_f, Option.bind_some, List.map_cons, List.map_nil, List.length_cons, List.length_nil, List.length_map, List.length_replicate, List.length_append, List.replicate, List.cons_append, List.nil_append, List.append_nil, Nat.sub_self, List.getElem?_cons_zero, List.getElem?_cons_succ, List.set_cons_zero, List.set_cons_succ, Nat.reduceAdd, Nat.reduceSub, Nat.zero_add, Option.getD_some, Bool.not_true, Bool.not_false, if_true, if_false, ite_true, ite_false, Bool.false_eq_true, reduceIte, decide_eq_true_eq, true_and, and_true]
      rw [← List.map_reverse]
      refine ⟨put M dp (.lst (xs.reverse.map .int)), ?_, q _ _ fdp⟩
      exact sb3.put dp _
  simp only [b__law_draws, n__law_draws, G3.wpSs, G3.wpS, G3.wpE, G3.wpEL, G3.wpO, G3.wpTO, G3.wpT, G3.wpAnd, G3.wpOr, G3.wpAndT, G3.wpOrT, G3.wpI, G3.wpG, G3.wpGs, G3.wipe3, G3.st3, G3.bi3, G3.me3, G3.Me.ty, G3.rets, some3_some, some3_none, atI0, atI1, atI2, atI3, ix3_tup, ix3_cl, getR3_ref, len3_tup, len3_cl, G3.add_int, add_tup, G3.sub_int, G3.mul_int, fdiv_int, G3.mod_int, pow_int, shl_int, aadd_int, asub_int, G3.eq_int, G3.ne_int, G3.lt_int, G3.le_int, G3.gt_int, G3.ge_int, isN_, notN_, inn_, nin_, in3_tup, isNon_int, isNon_non, isNon_tup, isNon_ref, isB3_bl, isI_int, one_, two_, tru_bl, tru_int, tru_non, tru_tup, int3_int, int3_bl, seqAt_tup, listAt_cl, list3_tup, sl3_tup, sl3_cl, neg3_int, seqI_tup, seqI_cl, zip3_tup, chain_t, chain_f, Option.bind_some, List.map_cons, List.map_nil, List.length_cons, List.length_nil, List.length_map, List.length_replicate, List.length_append, List.replicate, List.cons_append, List.nil_append, List.append_nil, Nat.sub_self, List.getElem?_cons_zero, List.getElem?_cons_succ, List.set_cons_zero, List.set_cons_succ, Nat.reduceAdd, Nat.reduceSub, Nat.zero_add, Option.getD_some, Bool.not_true, Bool.not_false, if_true, if_false, ite_true, ite_false, Bool.false_eq_true, reduceIte, decide_eq_true_eq, true_and, and_true]
  obtain ⟨ns', en, hn'⟩ := cut_map D.int ns none (some 63)
  rw [en]
  intro p hp
  have e1 : put M p (.lst (ns'.map .int)) p = some (.lst (ns'.map .int)) := put_same
  simp only [seqI_ref e1, G3.wpSs, G3.wpS, G3.wpE, G3.wpEL, G3.wpO, G3.wpTO, G3.wpT, G3.wpAnd, G3.wpOr, G3.wpAndT, G3.wpOrT, G3.wpI, G3.wpG, G3.wpGs, G3.wipe3, G3.st3, G3.bi3, G3.me3, G3.Me.ty, G3.rets, some3_some, some3_none, atI0, atI1, atI2, atI3, ix3_tup, ix3_cl, getR3_ref, len3_tup, len3_cl, G3.add_int, add_tup, G3.sub_int, G3.mul_int, fdiv_int, G3.mod_int, pow_int, shl_int, aadd_int, asub_int, G3.eq_int, G3.ne_int, G3.lt_int, G3.le_int, G3.gt_int, G3.ge_int, isN_, notN_, inn_, nin_, in3_tup, isNon_int, isNon_non, isNon_tup, isNon_ref, isB3_bl, isI_int, one_, two_, tru_bl, tru_int, tru_non, tru_tup, int3_int, int3_bl, seqAt_tup, listAt_cl, list3_tup, sl3_tup, sl3_cl, neg3_int, seqI_tup, seqI_cl, zip3_tup, chain_t, chain_f, Option.bind_some, List.map_cons, List.map_nil, List.length_cons, List.length_nil, List.length_map, List.length_replicate, List.length_append, List.replicate, List.cons_append, List.nil_append, List.append_nil, Nat.sub_self, List.getElem?_cons_zero, List.getElem?_cons_succ, List.set_cons_zero, List.set_cons_succ, Nat.reduceAdd, Nat.reduceSub, Nat.zero_add, Option.getD_some, Bool.not_true, Bool.not_false, if_true, if_false, ite_true, ite_false, Bool.false_eq_true, reduceIte, decide_eq_true_eq, true_and, and_true]
  refine lc_mp D.int ns' (fun z => .int (z % (1 * 2 ^ Int.toNat 7200))) (fun M' sb => sb _ _ e1) (fun a ha M' sb Qe h => ?_) (by rw [sline]; omega) ?_
  · simp only [G3.wpSs, G3.wpS, G3.wpE, G3.wpEL, G3.wpO, G3.wpTO, G3.wpT, G3.wpAnd, G3.wpOr, G3.wpAndT, G3.wpOrT, G3.wpI, G3.wpG, G3.wpGs, G3.wipe3, G3.st3, G3.bi3, G3.me3, G3.Me.ty, G3.rets, some3_some, some3_none, atI0, atI1, atI2, atI3, ix3_tup, ix3_cl, getR3_ref, len3_tup, len3_cl, G3.add_int, add_tup, G3.sub_int, G3.mul_int, fdiv_int, G3.mod_int, pow_int, shl_int, aadd_int, asub_int, G3.eq_int, G3.ne_int, G3.lt_int, G3.le_int, G3.gt_int, G3.ge_int, isN_, notN_, inn_, nin_, in3_tup, isNon_int, isNon_non, isNon_tup, isNon_ref, isB3_bl, isI_int, one_, two_, tru_bl, tru_int, tru_non, tru_tup, int3_int, int3_bl, seqAt_tup, listAt_cl, list3_tup, sl3_tup, sl3_cl, neg3_int, seqI_tup, seqI_cl, zip3_tup, chain_t, chain_f, Option.bind_some, List.map_cons, List.map_nil, List.length_cons, List.length_nil, List.length_map, List.length_replicate, List.length_append, List.replicate, List.cons_append, List.nil_append, List.append_nil, Nat.sub_self, List.getElem?_cons_zero, List.getElem?_cons_succ, List.set_cons_zero, List.set_cons_succ, Nat.reduceAdd, Nat.reduceSub, Nat.zero_add, Option.getD_some, Bool.not_true, Bool.not_false, if_true, if_false, ite_true, ite_false, Bool.false_eq_true, reduceIte, decide_eq_true_eq, true_and, and_true]
    exact ⟨by unfold CPow; decide, by rw [Int.one_mul]; exact pow_bound, h _ .refl⟩
  · rw [show (ns'.map fun z => D.int (z % (1 * 2 ^ Int.toNat 7200))) = (ns'.map fun z => z % (1 * 2 ^ Int.toNat 7200)).map .int by rw [List.map_map]; rfl]
    have hl : (ns'.map fun z => z % (1 * 2 ^ Int.toNat 7200)).length ≤ 63 := by rw [List.length_map]; omega
    generalize (ns'.map fun z => z % (1 * 2 ^ Int.toNat 7200)) = cs at *
    intro c fc
    have e2 : put (put M p (.lst (ns'.map .int))) c (.lst (cs.map .int)) c = some (.lst (cs.map .int)) := put_same
    obtain ⟨fc1, fc2⟩ := put_free fc
    simp only [len3_ref e2, isTyM_ref e2, refL_ref e2, G3.wpSs, G3.wpS, G3.wpE, G3.wpEL, G3.wpO, G3.wpTO, G3.wpT, G3.wpAnd, G3.wpOr, G3.wpAndT, G3.wpOrT, G3.wpI, G3.wpG, G3.wpGs, G3.wipe3, G3.st3, G3.bi3, G3.me3, G3.Me.ty, G3.rets, some3_some, some3_none, atI0, atI1, atI2, atI3, ix3_tup, ix3_cl, getR3_ref, len3_tup, len3_cl, G3.add_int, add_tup, G3.sub_int, G3.mul_int, fdiv_int, G3.mod_int, pow_int, shl_int, aadd_int, asub_int, G3.eq_int, G3.ne_int, G3.lt_int, G3.le_int, G3.gt_int, G3.ge_int, isN_, notN_, inn_, nin_, in3_tup, isNon_int, isNon_non, isNon_tup, isNon_ref, isB3_bl, isI_int, one_, two_, tru_bl, tru_int, tru_non, tru_tup, int3_int, int3_bl, seqAt_tup, listAt_cl, list3_tup, sl3_tup, sl3_cl, neg3_int, seqI_tup, seqI_cl, zip3_tup, chain_t, chain_f, Option.bind_some, List.map_cons, List.map_nil, List.length_cons, List.length_nil, List.length_map, List.length_replicate, List.length_append, List.replicate, List.cons_append, List.nil_append, List.append_nil, Nat.sub_self, List.getElem?_cons_zero, List.getElem?_cons_succ, List.set_cons_zero, List.set_cons_succ, Nat.reduceAdd, Nat.reduceSub, Nat.zero_add, Option.getD_some, Bool.not_true, Bool.not_false, if_true, if_false, ite_true, ite_false, Bool.false_eq_true, reduceIte, decide_eq_true_eq, true_and, and_true]
    by_cases c0 : cs = []
    · subst c0
      rw [if_pos (by simp)]
      refine ⟨by rw [sline]; decide, ?_⟩
      rw [put_put]
      exact key [0] c _ _ _ _ _ _ _ (by simp) (by simp) fc1 put_same ((Sub.new hp).put_free fc1 |>.trans .refl)
    · have hp0 := List.length_pos_iff.mpr c0
      rw [if_neg (by omega)]
      exact key cs c _ _ _ _ _ _ _ c0 (by omega) fc1 e2 ((Sub.new hp).put_free fc1)
/-! ### takes -/
def sp__law_take : Sp3 := fun ds M Q => ∃ (a : Addr) (xs : List Int) (m : Int), ds = [.ref a, .int m] ∧ M a = some (.lst (xs.map .int)) ∧ 0 < m ∧ ∀ (r : Int) (xs' : List Int), 0 ≤ r → r < m → Q (.int r) (put M a (.lst (xs'.map .int)))
theorem t__law_take : ∀ ds M Q, sp__law_take ds M Q → G3.wpSs b__law_take (rets Q) (st3 n__law_take.length ds) M := by
  rintro ds M Q ⟨a, xs, m, rfl, e, hm, q⟩
  simp only [n__law_take, r1__law_take, b__law_take, len3_ref e, isTyM_ref e, refL_ref e, G3.wpSs, G3.wpS, G3.wpE, G3.wpEL, G3.wpO, G3.wpTO, G3.wpT, G3.wpAnd, G3.wpOr, G3.wpAndT, G3.wpOrT, G3.wpI, G3.wpG, G3.wpGs, G3.wipe3, G3.st3, G3.bi3, G3.me3, G3.Me.ty, G3.rets, some3_some, some3_none, atI0, atI1, atI2, atI3, ix3_tup, ix3_cl, getR3_ref, len3_tup, len3_cl, G3.add_int, add_tup, G3.sub_int, G3.mul_int, fdiv_int, G3.mod_int, pow_int, shl_int, aadd_int, asub_int, G3.eq_int, G3.ne_int, G3.lt_int, G3.le_int, G3.gt_int, G3.ge_int, isN_, notN_, inn_, nin_, in3_tup, isNon_int, isNon_non, isNon_tup, isNon_ref, isB3_bl, isI_int, one_, two_, tru_bl, tru_int, tru_non, tru_tup, int3_int, int3_bl, seqAt_tup, listAt_cl, list3_tup, sl3_tup, sl3_cl, neg3_int, seqI_tup, seqI_cl, zip3_tup, chain_t, chain_f, Option.bind_some, List.map_cons, List.map_nil, List.length_cons, List.length_nil, List.length_map, List.length_replicate, List.length_append, List.replicate, List.cons_append, List.nil_append, List.append_nil, Nat.sub_self, List.getElem?_cons_zero, List.getElem?_cons_succ, List.set_cons_zero, List.set_cons_succ, Nat.reduceAdd, Nat.reduceSub, Nat.zero_add, Option.getD_some, Bool.not_true, Bool.not_false, if_true, if_false, ite_true, ite_false, Bool.false_eq_true, reduceIte, decide_eq_true_eq, true_and, and_true]
  by_cases hx : xs = []
  · subst hx
    rw [if_pos (by simp)]
    have := q 0 [] (by omega) hm
    rw [show (List.map D.int ([] : List Int)) = [] from rfl] at this e
    rw [put_self e] at this
    exact .of this
  · rw [if_neg (by have := List.length_pos_iff.mpr hx; omega)]
    have hl := List.length_pos_iff.mpr hx
    rw [List.getElem?_map, List.getElem?_eq_getElem (by omega)]
    simp only [Option.map_some, G3.wpSs, G3.wpS, G3.wpE, G3.wpEL, G3.wpO, G3.wpTO, G3.wpT, G3.wpAnd, G3.wpOr, G3.wpAndT, G3.wpOrT, G3.wpI, G3.wpG, G3.wpGs, G3.wipe3, G3.st3, G3.bi3, G3.me3, G3.Me.ty, G3.rets, some3_some, some3_none, atI0, atI1, atI2, atI3, ix3_tup, ix3_cl, getR3_ref, len3_tup, len3_cl, G3.add_int, add_tup, G3.sub_int, G3.mul_int, fdiv_int, G3.mod_int, pow_int, shl_int, aadd_int, asub_int, G3.eq_int, G3.ne_int, G3.lt_int, G3.le_int, G3.gt_int, G3.ge_int, isN_, notN_, inn_, nin_, in3_tup, isNon_int, isNon_non, isNon_tup, isNon_ref, isB3_bl, isI_int, one_, two_, tru_bl, tru_int, tru_non, tru_tup, int3_int, int3_bl, seqAt_tup, listAt_cl, list3_tup, sl3_tup, sl3_cl, neg3_int, seqI_tup, seqI_cl, zip3_tup, chain_t, chain_f, Option.bind_some, List.map_cons, List.map_nil, List.length_cons, List.length_nil, List.length_map, List.length_replicate, List.length_append, List.replicate, List.cons_append, List.nil_append, List.append_nil, Nat.sub_self, List.getElem?_cons_zero, List.getElem?_cons_succ, List.set_cons_zero, List.set_cons_succ, Nat.reduceAdd, Nat.reduceSub, Nat.zero_add, Option.getD_some, Bool.not_true, Bool.not_false, if_true, if_false, ite_true, ite_false, Bool.false_eq_true, reduceIte, decide_eq_true_eq, true_and, and_true]
    refine ⟨hm, .of ?_⟩
    rw [← List.map_dropLast]
    exact q _ _ (Int.emod_nonneg _ (by omega)) (Int.emod_lt_of_pos _ hm)
def sp__law_pick : Sp3 := fun ds M Q => ∃ (a p : Addr) (xs : List Int) (l : List D), ds = [.ref a, .ref p] ∧ M a = some (.lst (xs.map .int)) ∧ M p = some (.lst l) ∧ a ≠ p ∧ l ≠ [] ∧ ∀ (r : D) (xs' : List Int), r ∈ l → Q r (put M a (.lst (xs'.map .int)))
theorem t__law_pick : ∀ ds M Q, sp__law_pick ds M Q → G3.wpSs (b__law_pick sp__law_take) (rets Q) (st3 n__law_pick.length ds) M := by
  rintro ds M Q ⟨a, p, xs, l, rfl, e, ep, hne, hl, q⟩
  have hlp := List.length_pos_iff.mpr hl
  simp only [n__law_pick, b__law_pick, len3_ref ep, G3.wpSs, G3.wpS, G3.wpE, G3.wpEL, G3.wpO, G3.wpTO, G3.wpT, G3.wpAnd, G3.wpOr, G3.wpAndT, G3.wpOrT, G3.wpI, G3.wpG, G3.wpGs, G3.wipe3, G3.st3, G3.bi3, G3.me3, G3.Me.ty, G3.rets, some3_some, some3_none, atI0, atI1, atI2, atI3, ix3_tup, ix3_cl, getR3_ref, len3_tup, len3_cl, G3.add_int, add_tup, G3.sub_int, G3.mul_int, fdiv_int, G3.mod_int, pow_int, shl_int, aadd_int, asub_int, G3.eq_int, G3.ne_int, G3.lt_int, G3.le_int, G3.gt_int, G3.ge_int, isN_, notN_, inn_, nin_, in3_tup, isNon_int, isNon_non, isNon_tup, isNon_ref, isB3_bl, isI_int, one_, two_, tru_bl, tru_int, tru_non, tru_tup, int3_int, int3_bl, seqAt_tup, listAt_cl, list3_tup, sl3_tup, sl3_cl, neg3_int, seqI_tup, seqI_cl, zip3_tup, chain_t, chain_f, Option.bind_some, List.map_cons, List.map_nil, List.length_cons, List.length_nil, List.length_map, List.length_replicate, List.length_append, List.replicate, List.cons_append, List.nil_append, List.append_nil, Nat.sub_self, List.getElem?_cons_zero, List.getElem?_cons_succ, List.set_cons_zero, List.set_cons_succ, Nat.reduceAdd, Nat.reduceSub, Nat.zero_add, Option.getD_some, Bool.not_true, Bool.not_false, if_true, if_false, ite_true, ite_false, Bool.false_eq_true, reduceIte, decide_eq_true_eq, true_and, and_true]
  refine ⟨a, xs, _, rfl, e, by omega, fun r xs' h0 h1 => ?_⟩
  simp only []
  rw [ix3_ref (by rw [put_ne hne.symm]; exact ep), atI_some h0 h1, some3_some]
  exact .of (q _ _ (List.getElem_mem _))
/-! ### same -/
theorem ne_bl {x y : Bool} {M : Mp} {Q : K3} : cmp3 .ne (.bl x) (.bl y) M Q = Q (.bl (x != y)) M := by
  cases x <;> cases y <;> exact propext ⟨fun h => h.2.2, fun h => ⟨rfl, rfl, h⟩⟩
theorem eq_bl {x y : Bool} {M : Mp} {Q : K3} : cmp3 .eq (.bl x) (.bl y) M Q = Q (.bl (x == y)) M := by
  cases x <;> cases y <;> exact propext ⟨fun h => h.2.2, fun h => ⟨rfl, rfl, h⟩⟩
def okF : D → Prop
  | .non => True
  | .bl _ => True
  | .int _ => True
  | .str x => PySem.SeqAt.shaped (.str x) = true
  | _ => False
theorem eq_flat {d : D} {M : Mp} {Q : K3} (f : okF d) (q : Q (.bl true) M) : cmp3 .eq d d M Q := by
  cases d with
  | non => exact ⟨rfl, rfl, q⟩
  | bl b => rw [eq_bl]; simpa using q
  | int i => show Q (.bl (decide (i = i))) M; simpa using q
  | str x =>
    refine ⟨f, f, ?_⟩
    have : PySem.PyData.eqv (.str x) (.str x) = true := by
      unfold PySem.PyData.eqv; simp
    rw [this]; exact q
  | _ => cases f
def sameD (M : Mp) : Nat → D → D → Prop
  | 0, _, _ => False
  | k + 1, a, d => (okF d ∧ a = d) ∨
    (∃ l m : List D, a = .tup l ∧ d = .tup m ∧ l.length = m.length ∧ m.length ≤ 1000000 ∧ ∀ (i : Nat) (x y : D), l[i]? = some x → m[i]? = some y → sameD M k x y) ∨
    (∃ (p q : Addr) (l m : List D), a = .ref p ∧ d = .ref q ∧ M p = some (.lst l) ∧ M q = some (.lst m) ∧ l.length = m.length ∧ m.length ≤ 1000000 ∧ ∀ (i : Nat) (x y : D), l[i]? = some x → m[i]? = some y → sameD M k x y)
theorem sameD.mono {M M' : Mp} (s : Sub M M') : ∀ {k : Nat} {a d : D}, sameD M k a d → sameD M' k a d
  | 0, _, _, h => h.elim
  | k + 1, a, d, h => by
    unfold sameD at h ⊢
    rcases h with h | ⟨l, m, e1, e2, e3, e4, h⟩ | ⟨p, q, l, m, e1, e2, e3, e4, e5, e6, h⟩
    · exact .inl h
    · exact .inr (.inl ⟨l, m, e1, e2, e3, e4, fun i x y hx hy => (h i x y hx hy).mono s⟩)
    · exact .inr (.inr ⟨p, q, l, m, e1, e2, s _ _ e3, s _ _ e4, e5, e6, fun i x y hx hy => (h i x y hx hy).mono s⟩)
def sp__law_same (k : Nat) : Sp3 := fun ds M Q => ∃ a d, ds = [a, d] ∧ sameD M k a d ∧ Q (.bl true) M
theorem rep_flat {n : Nat} {d : D} (h : flatD d = true) : (List.replicate n d).all flatD = true := by
  rw [List.all_eq_true]
  intro x hx
  rw [(List.mem_replicate.mp hx).2]; exact h
theorem not_in {n : Nat} : inF (.bl false) (List.replicate n (.bl true)) = false := by
  unfold inF
  rw [List.any_eq_false]
  intro x hx
  rw [(List.mem_replicate.mp hx).2]; simp [eqF]
theorem map_const {α : Type} {d : D} : ∀ l : List α, (l.map fun _ => d) = List.replicate l.length d
  | [] => rfl
  | a :: l => by rw [List.map_cons, map_const l]; rfl
theorem same_tail {τ : S3} {M : Mp} {Q : K3} {te : TE3} {m : Nat} (hm : m ≤ 1000000)
    (he : ∀ j, j < m → ∀ M', Sub M M' → ∀ Qe : K3, (∀ M4, Sub M' M4 → Qe (.bl true) M4) → te ((wipe3 τ [2]).set 2 (some (.int j))) M' Qe) (q : Q (.bl true) M) :
    -2 ^ 62 ≤ (m : Int) ∧ (m : Int) < 2 ^ 62 ∧ lcW (rgD 0 1 (m : Int).toNat) (fun _ => True) (Tn.nm 2) [2] (fun _ M Q => Q true M) te τ M fun e M2 => cmp3 .nin (.bl false) e M2 fun d M' => wk (Q d) M' := by
  refine ⟨by omega, by omega, ?_⟩
  rw [show rgD 0 1 (m : Int).toNat = (List.range m).map (fun k : Nat => D.int (0 + k * 1)) from by rw [Int.toNat_natCast]; rfl]
  refine lc_mp _ (List.range m) (fun _ => .bl true) (fun _ _ => trivial) (fun j hj M' sb Qe hq => ?_) (by rw [List.length_range, sline]; omega) ?_
  · have hj := List.mem_range.mp hj
    simp only [G3.wpG]
    rw [show ((0 : Int) + (j : Nat) * 1) = j by omega]
    exact he j hj M' sb Qe hq
  · intro p hp
    rw [nin_, map_const, List.length_range, in3_ref put_same, not_in]
    exact ⟨rfl, rep_flat rfl, wk_new hp q⟩
theorem t__law_same (k : Nat) : ∀ ds M Q, sp__law_same (k + 1) ds M Q → G3.wpSs (b__law_same (sp__law_same k)) (rets Q) (st3 n__law_same.length ds) M := by
  rintro ds M Q ⟨a, d, rfl, h, q⟩
  rcases h with ⟨f, rfl⟩ | ⟨l, m, rfl, rfl, hl, hm, h⟩ | ⟨p, r, l, m, rfl, rfl, e1, e2, hl, hm, h⟩
  · cases a <;> first
      | (cases f; done)
      | (simp only [n__law_same, r2__law_same, r1__law_same, r5__law_same, r4__law_same, r3__law_same, b__law_same, tyName, isTy, List.any_cons, List.any_nil, ne_bl, isN_, G3.isNon, String.reduceBEq, Bool.or_false, Bool.or_true, Bool.and_false, Bool.false_and, Bool.true_and, Bool.and_true, Bool.or_self, Bool.and_self, bne_self_eq_false, G3.wpSs, G3.wpS, G3.wpE, G3.wpEL, G3.wpO, G3.wpTO, G3.wpT, G3.wpAnd, G3.wpOr, G3.wpAndT, G3.wpOrT, G3.wpI, G3.wpG, G3.wpGs, G3.wipe3, G3.st3, G3.bi3, G3.me3, G3.Me.ty, G3.rets, some3_some, some3_none, atI0, atI1, atI2, atI3, ix3_tup, ix3_cl, getR3_ref, len3_tup, len3_cl, G3.add_int, add_tup, G3.sub_int, G3.mul_int, fdiv_int, G3.mod_int, pow_int, shl_int, aadd_int, asub_int, G3.eq_int, G3.ne_int, G3.lt_int, G3.le_int, G3.gt_int, G3.ge_int, isN_, notN_, inn_, nin_, in3_tup, isNon_int, isNon_non, isNon_tup, isNon_ref, isB3_bl, isI_int, one_, two_, tru_bl, tru_int, tru_non, tru_tup, int3_int, int3_bl, seqAt_tup, listAt_cl, list3_tup, sl3_tup, sl3_cl, neg3_int, seqI_tup, seqI_cl, zip3_tup, chain_t, chain_f, Option.bind_some, List.map_cons, List.map_nil, List.length_cons, List.length_nil, List.length_map, List.length_replicate, List.length_append, List.replicate, List.cons_append, List.nil_append, List.append_nil, Nat.sub_self, List.getElem?_cons_zero, List.getElem?_cons_succ, List.set_cons_zero, List.set_cons_succ, Nat.reduceAdd, Nat.reduceSub, Nat.zero_add, Option.getD_some, Bool.not_true, Bool.not_false, if_true, if_false, ite_true, ite_false, Bool.false_eq_true, reduceIte, decide_eq_true_eq, true_and, and_true]
         first | exact eq_flat trivial (wk.of q) | exact eq_flat f (wk.of q) | (simp only [decide_true, beq_self_eq_true]; exact wk.of q))
  · simp only [n__law_same, r2__law_same, r1__law_same, r5__law_same, r4__law_same, r3__law_same, b__law_same, tyName, isTy, List.any_cons, List.any_nil, ne_bl, isN_, G3.isNon, String.reduceBEq, Bool.or_false, Bool.or_true, Bool.true_or, Bool.and_false, Bool.false_and, Bool.true_and, Bool.and_true, Bool.or_self, Bool.and_self, bne_self_eq_false, hl, decide_true, G3.wpSs, G3.wpS, G3.wpE, G3.wpEL, G3.wpO, G3.wpTO, G3.wpT, G3.wpAnd, G3.wpOr, G3.wpAndT, G3.wpOrT, G3.wpI, G3.wpG, G3.wpGs, G3.wipe3, G3.st3, G3.bi3, G3.me3, G3.Me.ty, G3.rets, some3_some, some3_none, atI0, atI1, atI2, atI3, ix3_tup, ix3_cl, getR3_ref, len3_tup, len3_cl, G3.add_int, add_tup, G3.sub_int, G3.mul_int, fdiv_int, G3.mod_int, pow_int, shl_int, aadd_int, asub_int, G3.eq_int, G3.ne_int, G3.lt_int, G3.le_int, G3.gt_int, G3.ge_int, isN_, notN_, inn_, nin_, in3_tup, isNon_int, isNon_non, isNon_tup, isNon_ref, isB3_bl, isI_int, one_, two_, tru_bl, tru_int, tru_non, tru_tup, int3_int, int3_bl, seqAt_tup, listAt_cl, list3_tup, sl3_tup, sl3_cl, neg3_int, seqI_tup, seqI_cl, zip3_tup, chain_t, chain_f, Option.bind_some, List.map_cons, List.map_nil, List.length_cons, List.length_nil, List.length_map, List.length_replicate, List.length_append, List.replicate, List.cons_append, List.nil_append, List.append_nil, Nat.sub_self, List.getElem?_cons_zero, List.getElem?_cons_succ, List.set_cons_zero, List.set_cons_succ, Nat.reduceAdd, Nat.reduceSub, Nat.zero_add, Option.getD_some, Bool.not_true, Bool.not_false, if_true, if_false, ite_true, ite_false, Bool.false_eq_true, reduceIte, decide_eq_true_eq, true_and, and_true]
    refine same_tail hm (fun j hj M' sb Qe hq => ?_) q
    simp only [G3.wpSs, G3.wpS, G3.wpE, G3.wpEL, G3.wpO, G3.wpTO, G3.wpT, G3.wpAnd, G3.wpOr, G3.wpAndT, G3.wpOrT, G3.wpI, G3.wpG, G3.wpGs, G3.wipe3, G3.st3, G3.bi3, G3.me3, G3.Me.ty, G3.rets, some3_some, some3_none, atI0, atI1, atI2, atI3, ix3_tup, ix3_cl, getR3_ref, len3_tup, len3_cl, G3.add_int, add_tup, G3.sub_int, G3.mul_int, fdiv_int, G3.mod_int, pow_int, shl_int, aadd_int, asub_int, G3.eq_int, G3.ne_int, G3.lt_int, G3.le_int, G3.gt_int, G3.ge_int, isN_, notN_, inn_, nin_, in3_tup, isNon_int, isNon_non, isNon_tup, isNon_ref, isB3_bl, isI_int, one_, two_, tru_bl, tru_int, tru_non, tru_tup, int3_int, int3_bl, seqAt_tup, listAt_cl, list3_tup, sl3_tup, sl3_cl, neg3_int, seqI_tup, seqI_cl, zip3_tup, chain_t, chain_f, Option.bind_some, List.map_cons, List.map_nil, List.length_cons, List.length_nil, List.length_map, List.length_replicate, List.length_append, List.replicate, List.cons_append, List.nil_append, List.append_nil, Nat.sub_self, List.getElem?_cons_zero, List.getElem?_cons_succ, List.set_cons_zero, List.set_cons_succ, Nat.reduceAdd, Nat.reduceSub, Nat.zero_add, Option.getD_some, Bool.not_true, Bool.not_false, if_true, if_false, ite_true, ite_false, Bool.false_eq_true, reduceIte, decide_eq_true_eq, true_and, and_true]
    rw [atI_some (by omega) (by omega), atI_some (by omega) (by omega)]
    simp only [G3.wpSs, G3.wpS, G3.wpE, G3.wpEL, G3.wpO, G3.wpTO, G3.wpT, G3.wpAnd, G3.wpOr, G3.wpAndT, G3.wpOrT, G3.wpI, G3.wpG, G3.wpGs, G3.wipe3, G3.st3, G3.bi3, G3.me3, G3.Me.ty, G3.rets, some3_some, some3_none, atI0, atI1, atI2, atI3, ix3_tup, ix3_cl, getR3_ref, len3_tup, len3_cl, G3.add_int, add_tup, G3.sub_int, G3.mul_int, fdiv_int, G3.mod_int, pow_int, shl_int, aadd_int, asub_int, G3.eq_int, G3.ne_int, G3.lt_int, G3.le_int, G3.gt_int, G3.ge_int, isN_, notN_, inn_, nin_, in3_tup, isNon_int, isNon_non, isNon_tup, isNon_ref, isB3_bl, isI_int, one_, two_, tru_bl, tru_int, tru_non, tru_tup, int3_int, int3_bl, seqAt_tup, listAt_cl, list3_tup, sl3_tup, sl3_cl, neg3_int, seqI_tup, seqI_cl, zip3_tup, chain_t, chain_f, Option.bind_some, List.map_cons, List.map_nil, List.length_cons, List.length_nil, List.length_map, List.length_replicate, List.length_append, List.replicate, List.cons_append, List.nil_append, List.append_nil, Nat.sub_self, List.getElem?_cons_zero, List.getElem?_cons_succ, List.set_cons_zero, List.set_cons_succ, Nat.reduceAdd, Nat.reduceSub, Nat.zero_add, Option.getD_some, Bool.not_true, Bool.not_false, if_true, if_false, ite_true, ite_false, Bool.false_eq_true, reduceIte, decide_eq_true_eq, true_and, and_true]
    exact ⟨_, _, rfl, (h j _ _ (by simp) (by simp)).mono sb, hq _ .refl⟩
  · simp only [n__law_same, r2__law_same, r1__law_same, r5__law_same, r4__law_same, r3__law_same, b__law_same, tyName, e1, e2, len3_ref e1, len3_ref e2, isTy, List.any_cons, List.any_nil, ne_bl, isN_, G3.isNon, String.reduceBEq, Bool.or_false, Bool.or_true, Bool.true_or, Bool.and_false, Bool.false_and, Bool.true_and, Bool.and_true, Bool.or_self, Bool.and_self, bne_self_eq_false, hl, decide_true, G3.wpSs, G3.wpS, G3.wpE, G3.wpEL, G3.wpO, G3.wpTO, G3.wpT, G3.wpAnd, G3.wpOr, G3.wpAndT, G3.wpOrT, G3.wpI, G3.wpG, G3.wpGs, G3.wipe3, G3.st3, G3.bi3, G3.me3, G3.Me.ty, G3.rets, some3_some, some3_none, atI0, atI1, atI2, atI3, ix3_tup, ix3_cl, getR3_ref, len3_tup, len3_cl, G3.add_int, add_tup, G3.sub_int, G3.mul_int, fdiv_int, G3.mod_int, pow_int, shl_int, aadd_int, asub_int, G3.eq_int, G3.ne_int, G3.lt_int, G3.le_int, G3.gt_int, G3.ge_int, isN_, notN_, inn_, nin_, in3_tup, isNon_int, isNon_non, isNon_tup, isNon_ref, isB3_bl, isI_int, one_, two_, tru_bl, tru_int, tru_non, tru_tup, int3_int, int3_bl, seqAt_tup, listAt_cl, list3_tup, sl3_tup, sl3_cl, neg3_int, seqI_tup, seqI_cl, zip3_tup, chain_t, chain_f, Option.bind_some, List.map_cons, List.map_nil, List.length_cons, List.length_nil, List.length_map, List.length_replicate, List.length_append, List.replicate, List.cons_append, List.nil_append, List.append_nil, Nat.sub_self, List.getElem?_cons_zero, List.getElem?_cons_succ, List.set_cons_zero, List.set_cons_succ, Nat.reduceAdd, Nat.reduceSub, Nat.zero_add, Option.getD_some, Bool.not_true, Bool.not_false, if_true, if_false, ite_true, ite_false, Bool.false_eq_true, reduceIte, decide_eq_true_eq, true_and, and_true]
    refine same_tail hm (fun j hj M' sb Qe hq => ?_) q
    simp only [G3.wpSs, G3.wpS, G3.wpE, G3.wpEL, G3.wpO, G3.wpTO, G3.wpT, G3.wpAnd, G3.wpOr, G3.wpAndT, G3.wpOrT, G3.wpI, G3.wpG, G3.wpGs, G3.wipe3, G3.st3, G3.bi3, G3.me3, G3.Me.ty, G3.rets, some3_some, some3_none, atI0, atI1, atI2, atI3, ix3_tup, ix3_cl, getR3_ref, len3_tup, len3_cl, G3.add_int, add_tup, G3.sub_int, G3.mul_int, fdiv_int, G3.mod_int, pow_int, shl_int, aadd_int, asub_int, G3.eq_int, G3.ne_int, G3.lt_int, G3.le_int, G3.gt_int, G3.ge_int, isN_, notN_, inn_, nin_, in3_tup, isNon_int, isNon_non, isNon_tup, isNon_ref, isB3_bl, isI_int, one_, two_, tru_bl, tru_int, tru_non, tru_tup, int3_int, int3_bl, seqAt_tup, listAt_cl, list3_tup, sl3_tup, sl3_cl, neg3_int, seqI_tup, seqI_cl, zip3_tup, chain_t, chain_f, Option.bind_some, List.map_cons, List.map_nil, List.length_cons, List.length_nil, List.length_map, List.length_replicate, List.length_append, List.replicate, List.cons_append, List.nil_append, List.append_nil, Nat.sub_self, List.getElem?_cons_zero, List.getElem?_cons_succ, List.set_cons_zero, List.set_cons_succ, Nat.reduceAdd, Nat.reduceSub, Nat.zero_add, Option.getD_some, Bool.not_true, Bool.not_false, if_true, if_false, ite_true, ite_false, Bool.false_eq_true, reduceIte, decide_eq_true_eq, true_and, and_true]
    rw [ix3_ref (sb _ _ e1), atI_some (by omega) (by omega)]
    simp only [G3.wpSs, G3.wpS, G3.wpE, G3.wpEL, G3.wpO, G3.wpTO, G3.wpT, G3.wpAnd, G3.wpOr, G3.wpAndT, G3.wpOrT, G3.wpI, G3.wpG, G3.wpGs, G3.wipe3, G3.st3, G3.bi3, G3.me3, G3.Me.ty, G3.rets, some3_some, some3_none, atI0, atI1, atI2, atI3, ix3_tup, ix3_cl, getR3_ref, len3_tup, len3_cl, G3.add_int, add_tup, G3.sub_int, G3.mul_int, fdiv_int, G3.mod_int, pow_int, shl_int, aadd_int, asub_int, G3.eq_int, G3.ne_int, G3.lt_int, G3.le_int, G3.gt_int, G3.ge_int, isN_, notN_, inn_, nin_, in3_tup, isNon_int, isNon_non, isNon_tup, isNon_ref, isB3_bl, isI_int, one_, two_, tru_bl, tru_int, tru_non, tru_tup, int3_int, int3_bl, seqAt_tup, listAt_cl, list3_tup, sl3_tup, sl3_cl, neg3_int, seqI_tup, seqI_cl, zip3_tup, chain_t, chain_f, Option.bind_some, List.map_cons, List.map_nil, List.length_cons, List.length_nil, List.length_map, List.length_replicate, List.length_append, List.replicate, List.cons_append, List.nil_append, List.append_nil, Nat.sub_self, List.getElem?_cons_zero, List.getElem?_cons_succ, List.set_cons_zero, List.set_cons_succ, Nat.reduceAdd, Nat.reduceSub, Nat.zero_add, Option.getD_some, Bool.not_true, Bool.not_false, if_true, if_false, ite_true, ite_false, Bool.false_eq_true, reduceIte, decide_eq_true_eq, true_and, and_true]
    rw [ix3_ref (sb _ _ e2), atI_some (by omega) (by omega)]
    simp only [G3.wpSs, G3.wpS, G3.wpE, G3.wpEL, G3.wpO, G3.wpTO, G3.wpT, G3.wpAnd, G3.wpOr, G3.wpAndT, G3.wpOrT, G3.wpI, G3.wpG, G3.wpGs, G3.wipe3, G3.st3, G3.bi3, G3.me3, G3.Me.ty, G3.rets, some3_some, some3_none, atI0, atI1, atI2, atI3, ix3_tup, ix3_cl, getR3_ref, len3_tup, len3_cl, G3.add_int, add_tup, G3.sub_int, G3.mul_int, fdiv_int, G3.mod_int, pow_int, shl_int, aadd_int, asub_int, G3.eq_int, G3.ne_int, G3.lt_int, G3.le_int, G3.gt_int, G3.ge_int, isN_, notN_, inn_, nin_, in3_tup, isNon_int, isNon_non, isNon_tup, isNon_ref, isB3_bl, isI_int, one_, two_, tru_bl, tru_int, tru_non, tru_tup, int3_int, int3_bl, seqAt_tup, listAt_cl, list3_tup, sl3_tup, sl3_cl, neg3_int, seqI_tup, seqI_cl, zip3_tup, chain_t, chain_f, Option.bind_some, List.map_cons, List.map_nil, List.length_cons, List.length_nil, List.length_map, List.length_replicate, List.length_append, List.replicate, List.cons_append, List.nil_append, List.append_nil, Nat.sub_self, List.getElem?_cons_zero, List.getElem?_cons_succ, List.set_cons_zero, List.set_cons_succ, Nat.reduceAdd, Nat.reduceSub, Nat.zero_add, Option.getD_some, Bool.not_true, Bool.not_false, if_true, if_false, ite_true, ite_false, Bool.false_eq_true, reduceIte, decide_eq_true_eq, true_and, and_true]
    exact ⟨_, _, rfl, (h j _ _ (by simp) (by simp)).mono sb, hq _ .refl⟩
/-- nothing is promised -/
def spNo : Sp3 := fun _ _ _ => False
theorem same_one {M : Mp} {k : Nat} {d : D} (f : okF d) : sameD M (k + 1) d d := .inl ⟨f, rfl⟩
/-! ### gcd -/
def sp__law_gcd : Sp3 := fun ds M Q => ∃ a b : Nat, ds = [.int a, .int b] ∧ b < 19999 ∧ Q (.int (Nat.gcd a b)) M
theorem t__law_gcd : ∀ ds M Q, sp__law_gcd ds M Q → G3.wpSs b__law_gcd (rets Q) (st3 n__law_gcd.length ds) M := by
  rintro ds M Q ⟨a, b, rfl, hb, q⟩
  simp only [n__law_gcd, r1__law_gcd, r2__law_gcd, b__law_gcd, Int.natAbs_natCast, G3.wpSs, G3.wpS, G3.wpE, G3.wpEL, G3.wpO, G3.wpTO, G3.wpT, G3.wpAnd, G3.wpOr, G3.wpAndT, G3.wpOrT, G3.wpI, G3.wpG, G3.wpGs, G3.wipe3, G3.st3, G3.bi3, G3.me3, G3.Me.ty, G3.rets, some3_some, some3_none, atI0, atI1, atI2, atI3, ix3_tup, ix3_cl, getR3_ref, len3_tup, len3_cl, G3.add_int, add_tup, G3.sub_int, G3.mul_int, fdiv_int, G3.mod_int, pow_int, shl_int, aadd_int, asub_int, G3.eq_int, G3.ne_int, G3.lt_int, G3.le_int, G3.gt_int, G3.ge_int, isN_, notN_, inn_, nin_, in3_tup, isNon_int, isNon_non, isNon_tup, isNon_ref, isB3_bl, isI_int, one_, two_, tru_bl, tru_int, tru_non, tru_tup, int3_int, int3_bl, seqAt_tup, listAt_cl, list3_tup, sl3_tup, sl3_cl, neg3_int, seqI_tup, seqI_cl, zip3_tup, chain_t, chain_f, Option.bind_some, List.map_cons, List.map_nil, List.length_cons, List.length_nil, List.length_map, List.length_replicate, List.length_append, List.replicate, List.cons_append, List.nil_append, List.append_nil, Nat.sub_self, List.getElem?_cons_zero, List.getElem?_cons_succ, List.set_cons_zero, List.set_cons_succ, Nat.reduceAdd, Nat.reduceSub, Nat.zero_add, Option.getD_some, Bool.not_true, Bool.not_false, if_true, if_false, ite_true, ite_false, Bool.false_eq_true, reduceIte, decide_eq_true_eq, true_and, and_true]
  refine ⟨by decide, by decide, fun i τ M' => ∃ (x y : Nat) (s4 s5 : Option D), τ = [some (.int a), some (.int b), some (.int x), some (.int y), s4, s5] ∧ Nat.gcd x y = Nat.gcd a b ∧ y + i ≤ b ∧ M' = M, ⟨a, b, _, _, rfl, rfl, by omega, rfl⟩, ?_⟩
  rintro i τ M' ⟨x, y, s4, s5, rfl, hg, hy, rfl⟩ hi
  rw [rgD_length] at hi ⊢
  refine ⟨trivial, fun d hd => ?_, fun e => ?_⟩
  · obtain ⟨hi2, rfl⟩ := rgD_get hd
    simp only [G3.wpSs, G3.wpS, G3.wpE, G3.wpEL, G3.wpO, G3.wpTO, G3.wpT, G3.wpAnd, G3.wpOr, G3.wpAndT, G3.wpOrT, G3.wpI, G3.wpG, G3.wpGs, G3.wipe3, G3.st3, G3.bi3, G3.me3, G3.Me.ty, G3.rets, some3_some, some3_none, atI0, atI1, atI2, atI3, ix3_tup, ix3_cl, getR3_ref, len3_tup, len3_cl, G3.add_int, add_tup, G3.sub_int, G3.mul_int, fdiv_int, G3.mod_int, pow_int, shl_int, aadd_int, asub_int, G3.eq_int, G3.ne_int, G3.lt_int, G3.le_int, G3.gt_int, G3.ge_int, isN_, notN_, inn_, nin_, in3_tup, isNon_int, isNon_non, isNon_tup, isNon_ref, isB3_bl, isI_int, one_, two_, tru_bl, tru_int, tru_non, tru_tup, int3_int, int3_bl, seqAt_tup, listAt_cl, list3_tup, sl3_tup, sl3_cl, neg3_int, seqI_tup, seqI_cl, zip3_tup, chain_t, chain_f, Option.bind_some, List.map_cons, List.map_nil, List.length_cons, List.length_nil, List.length_map, List.length_replicate, List.length_append, List.replicate, List.cons_append, List.nil_append, List.append_nil, Nat.sub_self, List.getElem?_cons_zero, List.getElem?_cons_succ, List.set_cons_zero, List.set_cons_succ, Nat.reduceAdd, Nat.reduceSub, Nat.zero_add, Option.getD_some, Bool.not_true, Bool.not_false, if_true, if_false, ite_true, ite_false, Bool.false_eq_true, reduceIte, decide_eq_true_eq, true_and, and_true]
    by_cases c : y = 0
    · subst c
      rw [if_pos (by simp)]
      rw [Nat.gcd_zero_right] at hg
      rw [hg]; exact wk.of q
    · rw [if_neg (by omega)]
      have hlt := Nat.mod_lt x (show y > 0 by omega)
      refine ⟨by omega, wk.of ⟨y, x % y, some (.int (0 + (i : Nat) * 1)), some (.int ((x : Int) % (y : Int))), ?_, ?_, by omega, rfl⟩⟩
      · rw [Int.natCast_emod]
      · rw [← hg, Nat.gcd_comm y, ← Nat.gcd_rec, Nat.gcd_comm]
  · subst e
    have : (20000 : Int).toNat = 20000 := rfl
    omega
/-! ### draws of a tide -/
/-- the draws stay a list of ints -/
abbrev Dr (M : Mp) (a : Addr) : Prop := ∃ xs : List Int, M a = some (.lst (xs.map .int))
theorem take_step {M : Mp} {a : Addr} {xs : List Int} {m : Int} {Q : K3} (e : M a = some (.lst (xs.map .int))) (hm : 0 < m) (q : ∀ (r : Int) (xs' : List Int), 0 ≤ r → r < m → Q (.int r) (put M a (.lst (xs'.map .int)))) : sp__law_take [.ref a, .int m] M Q := ⟨a, xs, m, rfl, e, hm, q⟩
def sp__law_tide_number : Sp3 := fun ds M Q => ∃ (a : Addr) (xs : List Int), ds = [.ref a] ∧ M a = some (.lst (xs.map .int)) ∧ ∀ (r : Int) (xs' : List Int), Q (.int r) (put M a (.lst (xs'.map .int)))
theorem put_as {M : Mp} {a : Addr} {o : MO} {xs : List Int} : put (put M a o) a (.lst (xs.map .int)) = put M a (.lst (xs.map .int)) := put_put
theorem t__law_tide_number : ∀ ds M Q, sp__law_tide_number ds M Q → G3.wpSs (b__law_tide_number sp__law_pick sp__law_take) (rets Q) (st3 n__law_tide_number.length ds) M := by
  rintro ds M Q ⟨a, xs, rfl, e, q⟩
  simp only [n__law_tide_number, r1__law_tide_number, b__law_tide_number, G3.wpSs, G3.wpS, G3.wpE, G3.wpEL, G3.wpO, G3.wpTO, G3.wpT, G3.wpAnd, G3.wpOr, G3.wpAndT, G3.wpOrT, G3.wpI, G3.wpG, G3.wpGs, G3.wipe3, G3.st3, G3.bi3, G3.me3, G3.Me.ty, G3.rets, some3_some, some3_none, atI0, atI1, atI2, atI3, ix3_tup, ix3_cl, getR3_ref, len3_tup, len3_cl, G3.add_int, add_tup, G3.sub_int, G3.mul_int, fdiv_int, G3.mod_int, pow_int, shl_int, aadd_int, asub_int, G3.eq_int, G3.ne_int, G3.lt_int, G3.le_int, G3.gt_int, G3.ge_int, isN_, notN_, inn_, nin_, in3_tup, isNon_int, isNon_non, isNon_tup, isNon_ref, isB3_bl, isI_int, one_, two_, tru_bl, tru_int, tru_non, tru_tup, int3_int, int3_bl, seqAt_tup, listAt_cl, list3_tup, sl3_tup, sl3_cl, neg3_int, seqI_tup, seqI_cl, zip3_tup, chain_t, chain_f, Option.bind_some, List.map_cons, List.map_nil, List.length_cons, List.length_nil, List.length_map, List.length_replicate, List.length_append, List.replicate, List.cons_append, List.nil_append, List.append_nil, Nat.sub_self, List.getElem?_cons_zero, List.getElem?_cons_succ, List.set_cons_zero, List.set_cons_succ, Nat.reduceAdd, Nat.reduceSub, Nat.zero_add, Option.getD_some, Bool.not_true, Bool.not_false, if_true, if_false, ite_true, ite_false, Bool.false_eq_true, reduceIte, decide_eq_true_eq, true_and, and_true]
  refine take_step e (by decide) fun r xs1 h0 h1 => ?_
  simp only [G3.wpSs, G3.wpS, G3.wpE, G3.wpEL, G3.wpO, G3.wpTO, G3.wpT, G3.wpAnd, G3.wpOr, G3.wpAndT, G3.wpOrT, G3.wpI, G3.wpG, G3.wpGs, G3.wipe3, G3.st3, G3.bi3, G3.me3, G3.Me.ty, G3.rets, some3_some, some3_none, atI0, atI1, atI2, atI3, ix3_tup, ix3_cl, getR3_ref, len3_tup, len3_cl, G3.add_int, add_tup, G3.sub_int, G3.mul_int, fdiv_int, G3.mod_int, pow_int, shl_int, aadd_int, asub_int, G3.eq_int, G3.ne_int, G3.lt_int, G3.le_int, G3.gt_int, G3.ge_int, isN_, notN_, inn_, nin_, in3_tup, isNon_int, isNon_non, isNon_tup, isNon_ref, isB3_bl, isI_int, one_, two_, tru_bl, tru_int, tru_non, tru_tup, int3_int, int3_bl, seqAt_tup, listAt_cl, list3_tup, sl3_tup, sl3_cl, neg3_int, seqI_tup, seqI_cl, zip3_tup, chain_t, chain_f, Option.bind_some, List.map_cons, List.map_nil, List.length_cons, List.length_nil, List.length_map, List.length_replicate, List.length_append, List.replicate, List.cons_append, List.nil_append, List.append_nil, Nat.sub_self, List.getElem?_cons_zero, List.getElem?_cons_succ, List.set_cons_zero, List.set_cons_succ, Nat.reduceAdd, Nat.reduceSub, Nat.zero_add, Option.getD_some, Bool.not_true, Bool.not_false, if_true, if_false, ite_true, ite_false, Bool.false_eq_true, reduceIte, decide_eq_true_eq, true_and, and_true]
  refine take_step put_same (by decide) fun r2 xs2 h2 h3 => ?_
  simp only [put_as]
  by_cases c : 0 < r2
  · simp only [G3.gt_int, isB3_bl, decide_eq_true_eq]
    rw [if_pos c]
    exact wk.of (q _ _)
  · simp only [G3.gt_int, isB3_bl, decide_eq_true_eq]
    rw [if_neg c]
    refine ⟨by unfold CPow; decide, by unfold CPow; decide, fun p hp => ?_⟩
    have hpa : a ≠ p := ne_of_put (o := .lst (xs2.map .int)) (o' := .lst []) put_same hp
    refine ⟨a, p, xs2, _, rfl, ?_, put_same, hpa, by simp, fun r3 xs3 hr3 => ?_⟩
    · rw [put_ne hpa]; exact put_same
    · refine take_step (xs := xs3) put_same (by decide) fun r4 xs4 h4 h5 => ?_
      simp only [put_as, G3.wpSs, G3.wpS, G3.wpE, G3.wpEL, G3.wpO, G3.wpTO, G3.wpT, G3.wpAnd, G3.wpOr, G3.wpAndT, G3.wpOrT, G3.wpI, G3.wpG, G3.wpGs, G3.wipe3, G3.st3, G3.bi3, G3.me3, G3.Me.ty, G3.rets, some3_some, some3_none, atI0, atI1, atI2, atI3, ix3_tup, ix3_cl, getR3_ref, len3_tup, len3_cl, G3.add_int, add_tup, G3.sub_int, G3.mul_int, fdiv_int, G3.mod_int, pow_int, shl_int, aadd_int, asub_int, G3.eq_int, G3.ne_int, G3.lt_int, G3.le_int, G3.gt_int, G3.ge_int, isN_, notN_, inn_, nin_, in3_tup, isNon_int, isNon_non, isNon_tup, isNon_ref, isB3_bl, isI_int, one_, two_, tru_bl, tru_int, tru_non, tru_tup, int3_int, int3_bl, seqAt_tup, listAt_cl, list3_tup, sl3_tup, sl3_cl, neg3_int, seqI_tup, seqI_cl, zip3_tup, chain_t, chain_f, Option.bind_some, List.map_cons, List.map_nil, List.length_cons, List.length_nil, List.length_map, List.length_replicate, List.length_append, List.replicate, List.cons_append, List.nil_append, List.append_nil, Nat.sub_self, List.getElem?_cons_zero, List.getElem?_cons_succ, List.set_cons_zero, List.set_cons_succ, Nat.reduceAdd, Nat.reduceSub, Nat.zero_add, Option.getD_some, Bool.not_true, Bool.not_false, if_true, if_false, ite_true, ite_false, Bool.false_eq_true, reduceIte, decide_eq_true_eq, true_and, and_true]
      have hz : ∃ z, r3 = .int z ∧ MulOk z (1 - 2 * r4) := by
        simp only [List.mem_cons, List.not_mem_nil, or_false] at hr3
        rcases hr3 with rfl | rfl | rfl <;> exact ⟨_, rfl, .inr (.inl ⟨by omega, by omega⟩)⟩
      obtain ⟨z, rfl, hz⟩ := hz
      simp only [G3.wpSs, G3.wpS, G3.wpE, G3.wpEL, G3.wpO, G3.wpTO, G3.wpT, G3.wpAnd, G3.wpOr, G3.wpAndT, G3.wpOrT, G3.wpI, G3.wpG, G3.wpGs, G3.wipe3, G3.st3, G3.bi3, G3.me3, G3.Me.ty, G3.rets, some3_some, some3_none, atI0, atI1, atI2, atI3, ix3_tup, ix3_cl, getR3_ref, len3_tup, len3_cl, G3.add_int, add_tup, G3.sub_int, G3.mul_int, fdiv_int, G3.mod_int, pow_int, shl_int, aadd_int, asub_int, G3.eq_int, G3.ne_int, G3.lt_int, G3.le_int, G3.gt_int, G3.ge_int, isN_, notN_, inn_, nin_, in3_tup, isNon_int, isNon_non, isNon_tup, isNon_ref, isB3_bl, isI_int, one_, two_, tru_bl, tru_int, tru_non, tru_tup, int3_int, int3_bl, seqAt_tup, listAt_cl, list3_tup, sl3_tup, sl3_cl, neg3_int, seqI_tup, seqI_cl, zip3_tup, chain_t, chain_f, Option.bind_some, List.map_cons, List.map_nil, List.length_cons, List.length_nil, List.length_map, List.length_replicate, List.length_append, List.replicate, List.cons_append, List.nil_append, List.append_nil, Nat.sub_self, List.getElem?_cons_zero, List.getElem?_cons_succ, List.set_cons_zero, List.set_cons_succ, Nat.reduceAdd, Nat.reduceSub, Nat.zero_add, Option.getD_some, Bool.not_true, Bool.not_false, if_true, if_false, ite_true, ite_false, Bool.false_eq_true, reduceIte, decide_eq_true_eq, true_and, and_true]
      refine ⟨MulOk_small (by omega) (by omega), hz, ?_⟩
      obtain ⟨hp1, hp2⟩ := put_free hp
      rw [put_comm (Ne.symm hpa), put_as]
      refine wk_sub (M' := put (put M a _) p _) ?_ (q _ xs4)
      exact Sub.new (by rw [put_ne (Ne.symm hpa)]; exact hp1)
def sp__law_tide_period : Sp3 := fun ds M Q => ∃ (a : Addr) (xs : List Int), ds = [.ref a] ∧ M a = some (.lst (xs.map .int)) ∧ ∀ (r : Int) (xs' : List Int), 1 ≤ r → r ≤ 24 → Q (.int r) (put M a (.lst (xs'.map .int)))
theorem t__law_tide_period : ∀ ds M Q, sp__law_tide_period ds M Q → G3.wpSs (b__law_tide_period sp__law_take) (rets Q) (st3 n__law_tide_period.length ds) M := by
  rintro ds M Q ⟨a, xs, rfl, e, q⟩
  simp only [n__law_tide_period, r1__law_tide_period, b__law_tide_period, G3.wpSs, G3.wpS, G3.wpE, G3.wpEL, G3.wpO, G3.wpTO, G3.wpT, G3.wpAnd, G3.wpOr, G3.wpAndT, G3.wpOrT, G3.wpI, G3.wpG, G3.wpGs, G3.wipe3, G3.st3, G3.bi3, G3.me3, G3.Me.ty, G3.rets, some3_some, some3_none, atI0, atI1, atI2, atI3, ix3_tup, ix3_cl, getR3_ref, len3_tup, len3_cl, G3.add_int, add_tup, G3.sub_int, G3.mul_int, fdiv_int, G3.mod_int, pow_int, shl_int, aadd_int, asub_int, G3.eq_int, G3.ne_int, G3.lt_int, G3.le_int, G3.gt_int, G3.ge_int, isN_, notN_, inn_, nin_, in3_tup, isNon_int, isNon_non, isNon_tup, isNon_ref, isB3_bl, isI_int, one_, two_, tru_bl, tru_int, tru_non, tru_tup, int3_int, int3_bl, seqAt_tup, listAt_cl, list3_tup, sl3_tup, sl3_cl, neg3_int, seqI_tup, seqI_cl, zip3_tup, chain_t, chain_f, Option.bind_some, List.map_cons, List.map_nil, List.length_cons, List.length_nil, List.length_map, List.length_replicate, List.length_append, List.replicate, List.cons_append, List.nil_append, List.append_nil, Nat.sub_self, List.getElem?_cons_zero, List.getElem?_cons_succ, List.set_cons_zero, List.set_cons_succ, Nat.reduceAdd, Nat.reduceSub, Nat.zero_add, Option.getD_some, Bool.not_true, Bool.not_false, if_true, if_false, ite_true, ite_false, Bool.false_eq_true, reduceIte, decide_eq_true_eq, true_and, and_true]
  refine take_step e (by decide) fun r xs1 h0 h1 => ?_
  simp only [G3.eq_int, isB3_bl, decide_eq_true_eq]
  split
  · refine take_step put_same (by decide) fun r2 xs2 h2 h3 => ?_
    simp only [put_as, G3.wpSs, G3.wpS, G3.wpE, G3.wpEL, G3.wpO, G3.wpTO, G3.wpT, G3.wpAnd, G3.wpOr, G3.wpAndT, G3.wpOrT, G3.wpI, G3.wpG, G3.wpGs, G3.wipe3, G3.st3, G3.bi3, G3.me3, G3.Me.ty, G3.rets, some3_some, some3_none, atI0, atI1, atI2, atI3, ix3_tup, ix3_cl, getR3_ref, len3_tup, len3_cl, G3.add_int, add_tup, G3.sub_int, G3.mul_int, fdiv_int, G3.mod_int, pow_int, shl_int, aadd_int, asub_int, G3.eq_int, G3.ne_int, G3.lt_int, G3.le_int, G3.gt_int, G3.ge_int, isN_, notN_, inn_, nin_, in3_tup, isNon_int, isNon_non, isNon_tup, isNon_ref, isB3_bl, isI_int, one_, two_, tru_bl, tru_int, tru_non, tru_tup, int3_int, int3_bl, seqAt_tup, listAt_cl, list3_tup, sl3_tup, sl3_cl, neg3_int, seqI_tup, seqI_cl, zip3_tup, chain_t, chain_f, Option.bind_some, List.map_cons, List.map_nil, List.length_cons, List.length_nil, List.length_map, List.length_replicate, List.length_append, List.replicate, List.cons_append, List.nil_append, List.append_nil, Nat.sub_self, List.getElem?_cons_zero, List.getElem?_cons_succ, List.set_cons_zero, List.set_cons_succ, Nat.reduceAdd, Nat.reduceSub, Nat.zero_add, Option.getD_some, Bool.not_true, Bool.not_false, if_true, if_false, ite_true, ite_false, Bool.false_eq_true, reduceIte, decide_eq_true_eq, true_and, and_true]
    exact wk.of (q _ _ (by omega) (by omega))
  · refine take_step put_same (by decide) fun r2 xs2 h2 h3 => ?_
    simp only [put_as, G3.wpSs, G3.wpS, G3.wpE, G3.wpEL, G3.wpO, G3.wpTO, G3.wpT, G3.wpAnd, G3.wpOr, G3.wpAndT, G3.wpOrT, G3.wpI, G3.wpG, G3.wpGs, G3.wipe3, G3.st3, G3.bi3, G3.me3, G3.Me.ty, G3.rets, some3_some, some3_none, atI0, atI1, atI2, atI3, ix3_tup, ix3_cl, getR3_ref, len3_tup, len3_cl, G3.add_int, add_tup, G3.sub_int, G3.mul_int, fdiv_int, G3.mod_int, pow_int, shl_int, aadd_int, asub_int, G3.eq_int, G3.ne_int, G3.lt_int, G3.le_int, G3.gt_int, G3.ge_int, isN_, notN_, inn_, nin_, in3_tup, isNon_int, isNon_non, isNon_tup, isNon_ref, isB3_bl, isI_int, one_, two_, tru_bl, tru_int, tru_non, tru_tup, int3_int, int3_bl, seqAt_tup, listAt_cl, list3_tup, sl3_tup, sl3_cl, neg3_int, seqI_tup, seqI_cl, zip3_tup, chain_t, chain_f, Option.bind_some, List.map_cons, List.map_nil, List.length_cons, List.length_nil, List.length_map, List.length_replicate, List.length_append, List.replicate, List.cons_append, List.nil_append, List.append_nil, Nat.sub_self, List.getElem?_cons_zero, List.getElem?_cons_succ, List.set_cons_zero, List.set_cons_succ, Nat.reduceAdd, Nat.reduceSub, Nat.zero_add, Option.getD_some, Bool.not_true, Bool.not_false, if_true, if_false, ite_true, ite_false, Bool.false_eq_true, reduceIte, decide_eq_true_eq, true_and, and_true]
    exact wk.of (q _ _ (by omega) (by omega))
def sp__law_tide_hour : Sp3 := fun ds M Q => ∃ (a : Addr) (xs : List Int) (few : Int), ds = [.ref a, .int few] ∧ M a = some (.lst (xs.map .int)) ∧ 0 < few ∧ ∀ (r : Int) (xs' : List Int), 0 ≤ r → Q (.int r) (put M a (.lst (xs'.map .int)))
theorem t__law_tide_hour : ∀ ds M Q, sp__law_tide_hour ds M Q → G3.wpSs (b__law_tide_hour sp__law_take sp__law_pick) (rets Q) (st3 n__law_tide_hour.length ds) M := by
  rintro ds M Q ⟨a, xs, few, rfl, e, hf, q⟩
  simp only [n__law_tide_hour, r1__law_tide_hour, b__law_tide_hour, G3.wpSs, G3.wpS, G3.wpE, G3.wpEL, G3.wpO, G3.wpTO, G3.wpT, G3.wpAnd, G3.wpOr, G3.wpAndT, G3.wpOrT, G3.wpI, G3.wpG, G3.wpGs, G3.wipe3, G3.st3, G3.bi3, G3.me3, G3.Me.ty, G3.rets, some3_some, some3_none, atI0, atI1, atI2, atI3, ix3_tup, ix3_cl, getR3_ref, len3_tup, len3_cl, G3.add_int, add_tup, G3.sub_int, G3.mul_int, fdiv_int, G3.mod_int, pow_int, shl_int, aadd_int, asub_int, G3.eq_int, G3.ne_int, G3.lt_int, G3.le_int, G3.gt_int, G3.ge_int, isN_, notN_, inn_, nin_, in3_tup, isNon_int, isNon_non, isNon_tup, isNon_ref, isB3_bl, isI_int, one_, two_, tru_bl, tru_int, tru_non, tru_tup, int3_int, int3_bl, seqAt_tup, listAt_cl, list3_tup, sl3_tup, sl3_cl, neg3_int, seqI_tup, seqI_cl, zip3_tup, chain_t, chain_f, Option.bind_some, List.map_cons, List.map_nil, List.length_cons, List.length_nil, List.length_map, List.length_replicate, List.length_append, List.replicate, List.cons_append, List.nil_append, List.append_nil, Nat.sub_self, List.getElem?_cons_zero, List.getElem?_cons_succ, List.set_cons_zero, List.set_cons_succ, Nat.reduceAdd, Nat.reduceSub, Nat.zero_add, Option.getD_some, Bool.not_true, Bool.not_false, if_true, if_false, ite_true, ite_false, Bool.false_eq_true, reduceIte, decide_eq_true_eq, true_and, and_true]
  refine take_step e (by decide) fun r xs2 h0 h1 => ?_
  simp only [G3.eq_int, isB3_bl, decide_eq_true_eq]
  split
  · refine ⟨by unfold CPow; decide, by unfold CPow; decide, by unfold CPow; decide, fun p hp => ?_⟩
    have hpa : a ≠ p := ne_of_put (o := .lst (xs2.map .int)) (o' := .lst []) put_same hp
    refine ⟨a, p, xs2, _, rfl, ?_, put_same, hpa, by simp, fun r3 xs3 hr3 => ?_⟩
    · rw [put_ne hpa]; exact put_same
    · refine take_step (xs := xs3) put_same (by decide) fun r4 xs4 h4 h5 => ?_
      simp only [put_as, G3.wpSs, G3.wpS, G3.wpE, G3.wpEL, G3.wpO, G3.wpTO, G3.wpT, G3.wpAnd, G3.wpOr, G3.wpAndT, G3.wpOrT, G3.wpI, G3.wpG, G3.wpGs, G3.wipe3, G3.st3, G3.bi3, G3.me3, G3.Me.ty, G3.rets, some3_some, some3_none, atI0, atI1, atI2, atI3, ix3_tup, ix3_cl, getR3_ref, len3_tup, len3_cl, G3.add_int, add_tup, G3.sub_int, G3.mul_int, fdiv_int, G3.mod_int, pow_int, shl_int, aadd_int, asub_int, G3.eq_int, G3.ne_int, G3.lt_int, G3.le_int, G3.gt_int, G3.ge_int, isN_, notN_, inn_, nin_, in3_tup, isNon_int, isNon_non, isNon_tup, isNon_ref, isB3_bl, isI_int, one_, two_, tru_bl, tru_int, tru_non, tru_tup, int3_int, int3_bl, seqAt_tup, listAt_cl, list3_tup, sl3_tup, sl3_cl, neg3_int, seqI_tup, seqI_cl, zip3_tup, chain_t, chain_f, Option.bind_some, List.map_cons, List.map_nil, List.length_cons, List.length_nil, List.length_map, List.length_replicate, List.length_append, List.replicate, List.cons_append, List.nil_append, List.append_nil, Nat.sub_self, List.getElem?_cons_zero, List.getElem?_cons_succ, List.set_cons_zero, List.set_cons_succ, Nat.reduceAdd, Nat.reduceSub, Nat.zero_add, Option.getD_some, Bool.not_true, Bool.not_false, if_true, if_false, ite_true, ite_false, Bool.false_eq_true, reduceIte, decide_eq_true_eq, true_and, and_true]
      have hz : ∃ z, r3 = .int z ∧ 0 ≤ z := by
        simp only [List.mem_cons, List.not_mem_nil, or_false] at hr3
        rcases hr3 with rfl | rfl | rfl <;> exact ⟨_, rfl, by decide⟩
      obtain ⟨z, rfl, hz⟩ := hz
      simp only [G3.wpSs, G3.wpS, G3.wpE, G3.wpEL, G3.wpO, G3.wpTO, G3.wpT, G3.wpAnd, G3.wpOr, G3.wpAndT, G3.wpOrT, G3.wpI, G3.wpG, G3.wpGs, G3.wipe3, G3.st3, G3.bi3, G3.me3, G3.Me.ty, G3.rets, some3_some, some3_none, atI0, atI1, atI2, atI3, ix3_tup, ix3_cl, getR3_ref, len3_tup, len3_cl, G3.add_int, add_tup, G3.sub_int, G3.mul_int, fdiv_int, G3.mod_int, pow_int, shl_int, aadd_int, asub_int, G3.eq_int, G3.ne_int, G3.lt_int, G3.le_int, G3.gt_int, G3.ge_int, isN_, notN_, inn_, nin_, in3_tup, isNon_int, isNon_non, isNon_tup, isNon_ref, isB3_bl, isI_int, one_, two_, tru_bl, tru_int, tru_non, tru_tup, int3_int, int3_bl, seqAt_tup, listAt_cl, list3_tup, sl3_tup, sl3_cl, neg3_int, seqI_tup, seqI_cl, zip3_tup, chain_t, chain_f, Option.bind_some, List.map_cons, List.map_nil, List.length_cons, List.length_nil, List.length_map, List.length_replicate, List.length_append, List.replicate, List.cons_append, List.nil_append, List.append_nil, Nat.sub_self, List.getElem?_cons_zero, List.getElem?_cons_succ, List.set_cons_zero, List.set_cons_succ, Nat.reduceAdd, Nat.reduceSub, Nat.zero_add, Option.getD_some, Bool.not_true, Bool.not_false, if_true, if_false, ite_true, ite_false, Bool.false_eq_true, reduceIte, decide_eq_true_eq, true_and, and_true]
      obtain ⟨hp1, hp2⟩ := put_free hp
      rw [put_comm (Ne.symm hpa), put_as]
      refine wk_sub (M' := put (put M a _) p _) ?_ (q _ xs4 (by omega))
      exact Sub.new (by rw [put_ne (Ne.symm hpa)]; exact hp1)
  · refine take_step put_same hf fun r2 xs2 h2 h3 => ?_
    simp only [put_as, G3.wpSs, G3.wpS, G3.wpE, G3.wpEL, G3.wpO, G3.wpTO, G3.wpT, G3.wpAnd, G3.wpOr, G3.wpAndT, G3.wpOrT, G3.wpI, G3.wpG, G3.wpGs, G3.wipe3, G3.st3, G3.bi3, G3.me3, G3.Me.ty, G3.rets, some3_some, some3_none, atI0, atI1, atI2, atI3, ix3_tup, ix3_cl, getR3_ref, len3_tup, len3_cl, G3.add_int, add_tup, G3.sub_int, G3.mul_int, fdiv_int, G3.mod_int, pow_int, shl_int, aadd_int, asub_int, G3.eq_int, G3.ne_int, G3.lt_int, G3.le_int, G3.gt_int, G3.ge_int, isN_, notN_, inn_, nin_, in3_tup, isNon_int, isNon_non, isNon_tup, isNon_ref, isB3_bl, isI_int, one_, two_, tru_bl, tru_int, tru_non, tru_tup, int3_int, int3_bl, seqAt_tup, listAt_cl, list3_tup, sl3_tup, sl3_cl, neg3_int, seqI_tup, seqI_cl, zip3_tup, chain_t, chain_f, Option.bind_some, List.map_cons, List.map_nil, List.length_cons, List.length_nil, List.length_map, List.length_replicate, List.length_append, List.replicate, List.cons_append, List.nil_append, List.append_nil, Nat.sub_self, List.getElem?_cons_zero, List.getElem?_cons_succ, List.set_cons_zero, List.set_cons_succ, Nat.reduceAdd, Nat.reduceSub, Nat.zero_add, Option.getD_some, Bool.not_true, Bool.not_false, if_true, if_false, ite_true, ite_false, Bool.false_eq_true, reduceIte, decide_eq_true_eq, true_and, and_true]
    exact wk.of (q _ _ (by omega))
/-- [draw for k in range(n)] -/
theorem lc_draw {a : Addr} {xs0 : List Int} {n v : Nat} {te : TE3} {τ : S3} {M1 : Mp} {Q : K3} (e : M1 a = some (.lst (xs0.map .int)))
    (hf : ∀ (i : Nat) (xs : List Int) (M : Mp), M a = some (.lst (xs.map .int)) → ∀ Qe : K3, (∀ (r : Int) (xs' : List Int), Qe (.int r) (put M a (.lst (xs'.map .int)))) → te ((wipe3 τ [v]).set v (some (.int i))) M Qe)
    (hn : n < 16777216)
    (hQ : ∀ (rs xs : List Int), rs.length = n → ∀ p, M1 p = none → Q (.ref p) (put (put M1 a (.lst (xs.map .int))) p (.lst (rs.map .int)))) :
    lcW (rgD 0 1 n) (fun _ => True) (Tn.nm v) [v] (fun _ M Q => Q true M) te τ M1 Q := by
  intro p hp
  have hap : a ≠ p := fun z => by subst z; rw [hp] at e; cases e
  refine ⟨fun i acc M => ∃ rs xs : List Int, rs.length = i ∧ acc = rs.map .int ∧ M = put (put M1 a (.lst (xs.map .int))) p (.lst acc), ⟨[], xs0, rfl, rfl, by rw [put_self e]⟩, ?_⟩
  rintro i acc M ⟨rs, xs, hr, rfl, rfl⟩ hi
  rw [rgD_length] at hi ⊢
  refine ⟨trivial, put_same, fun d hd => ?_, fun ei => ?_⟩
  · obtain ⟨hi2, rfl⟩ := rgD_get hd
    simp only [G3.wpG, if_true]
    rw [show ((0 : Int) + (i : Nat) * 1) = i by omega]
    refine hf i xs _ (by rw [put_ne hap, put_same]) _ fun r xs' => ⟨by rw [List.length_map, sline]; omega, by rw [put_ne (Ne.symm hap), put_same], wk.of ⟨rs ++ [r], xs', by rw [List.length_append, hr]; rfl, by rw [List.map_append]; rfl, ?_⟩⟩
    rw [put_comm (Ne.symm hap), put_put, put_put]
  · exact wk.of (hQ rs xs (by omega) p hp)
def sp_wheels : Sp3 := fun ds M Q => ∃ (a : Addr) (xs : List Int) (p q : Nat), ds = [.ref a, .int p, .int q] ∧ M a = some (.lst (xs.map .int)) ∧ p ≤ 100 ∧ q ≤ 100 ∧ ∀ w0 w1 xs' : List Int, w0.length = p → w1.length = q → Q (whl w0 w1) (put M a (.lst (xs'.map .int)))
theorem t__law_tide_wheels : ∀ ds M Q, sp_wheels ds M Q → G3.wpSs (b__law_tide_wheels sp__law_tide_number) (rets Q) (st3 n__law_tide_wheels.length ds) M := by
  rintro ds M Q ⟨a, xs, p, q, rfl, e, hp, hq, h⟩
  simp only [n__law_tide_wheels, b__law_tide_wheels, Int.toNat_natCast, G3.wpSs, G3.wpS, G3.wpE, G3.wpEL, G3.wpO, G3.wpTO, G3.wpT, G3.wpAnd, G3.wpOr, G3.wpAndT, G3.wpOrT, G3.wpI, G3.wpG, G3.wpGs, G3.wipe3, G3.st3, G3.bi3, G3.me3, G3.Me.ty, G3.rets, some3_some, some3_none, atI0, atI1, atI2, atI3, ix3_tup, ix3_cl, getR3_ref, len3_tup, len3_cl, G3.add_int, add_tup, G3.sub_int, G3.mul_int, fdiv_int, G3.mod_int, pow_int, shl_int, aadd_int, asub_int, G3.eq_int, G3.ne_int, G3.lt_int, G3.le_int, G3.gt_int, G3.ge_int, isN_, notN_, inn_, nin_, in3_tup, isNon_int, isNon_non, isNon_tup, isNon_ref, isB3_bl, isI_int, one_, two_, tru_bl, tru_int, tru_non, tru_tup, int3_int, int3_bl, seqAt_tup, listAt_cl, list3_tup, sl3_tup, sl3_cl, neg3_int, seqI_tup, seqI_cl, zip3_tup, chain_t, chain_f, Option.bind_some, List.map_cons, List.map_nil, List.length_cons, List.length_nil, List.length_map, List.length_replicate, List.length_append, List.replicate, List.cons_append, List.nil_append, List.append_nil, Nat.sub_self, List.getElem?_cons_zero, List.getElem?_cons_succ, List.set_cons_zero, List.set_cons_succ, Nat.reduceAdd, Nat.reduceSub, Nat.zero_add, Option.getD_some, Bool.not_true, Bool.not_false, if_true, if_false, ite_true, ite_false, Bool.false_eq_true, reduceIte, decide_eq_true_eq, true_and, and_true]
  refine ⟨by omega, by omega, lc_draw e (fun i xs1 M1 e1 Qe k => ?_) (by omega) fun w0 xs1 hw0 p1 hp1 => ?_⟩
  · simp only [G3.wpSs, G3.wpS, G3.wpE, G3.wpEL, G3.wpO, G3.wpTO, G3.wpT, G3.wpAnd, G3.wpOr, G3.wpAndT, G3.wpOrT, G3.wpI, G3.wpG, G3.wpGs, G3.wipe3, G3.st3, G3.bi3, G3.me3, G3.Me.ty, G3.rets, some3_some, some3_none, atI0, atI1, atI2, atI3, ix3_tup, ix3_cl, getR3_ref, len3_tup, len3_cl, G3.add_int, add_tup, G3.sub_int, G3.mul_int, fdiv_int, G3.mod_int, pow_int, shl_int, aadd_int, asub_int, G3.eq_int, G3.ne_int, G3.lt_int, G3.le_int, G3.gt_int, G3.ge_int, isN_, notN_, inn_, nin_, in3_tup, isNon_int, isNon_non, isNon_tup, isNon_ref, isB3_bl, isI_int, one_, two_, tru_bl, tru_int, tru_non, tru_tup, int3_int, int3_bl, seqAt_tup, listAt_cl, list3_tup, sl3_tup, sl3_cl, neg3_int, seqI_tup, seqI_cl, zip3_tup, chain_t, chain_f, Option.bind_some, List.map_cons, List.map_nil, List.length_cons, List.length_nil, List.length_map, List.length_replicate, List.length_append, List.replicate, List.cons_append, List.nil_append, List.append_nil, Nat.sub_self, List.getElem?_cons_zero, List.getElem?_cons_succ, List.set_cons_zero, List.set_cons_succ, Nat.reduceAdd, Nat.reduceSub, Nat.zero_add, Option.getD_some, Bool.not_true, Bool.not_false, if_true, if_false, ite_true, ite_false, Bool.false_eq_true, reduceIte, decide_eq_true_eq, true_and, and_true]
    exact ⟨a, xs1, rfl, e1, k⟩
  · have hap : a ≠ p1 := fun z => by subst z; rw [hp1] at e; cases e
    simp only [listAt_ref put_same, seqAt_ref put_same, G3.wpSs, G3.wpS, G3.wpE, G3.wpEL, G3.wpO, G3.wpTO, G3.wpT, G3.wpAnd, G3.wpOr, G3.wpAndT, G3.wpOrT, G3.wpI, G3.wpG, G3.wpGs, G3.wipe3, G3.st3, G3.bi3, G3.me3, G3.Me.ty, G3.rets, some3_some, some3_none, atI0, atI1, atI2, atI3, ix3_tup, ix3_cl, getR3_ref, len3_tup, len3_cl, G3.add_int, add_tup, G3.sub_int, G3.mul_int, fdiv_int, G3.mod_int, pow_int, shl_int, aadd_int, asub_int, G3.eq_int, G3.ne_int, G3.lt_int, G3.le_int, G3.gt_int, G3.ge_int, isN_, notN_, inn_, nin_, in3_tup, isNon_int, isNon_non, isNon_tup, isNon_ref, isB3_bl, isI_int, one_, two_, tru_bl, tru_int, tru_non, tru_tup, int3_int, int3_bl, seqAt_tup, listAt_cl, list3_tup, sl3_tup, sl3_cl, neg3_int, seqI_tup, seqI_cl, zip3_tup, chain_t, chain_f, Option.bind_some, List.map_cons, List.map_nil, List.length_cons, List.length_nil, List.length_map, List.length_replicate, List.length_append, List.replicate, List.cons_append, List.nil_append, List.append_nil, Nat.sub_self, List.getElem?_cons_zero, List.getElem?_cons_succ, List.set_cons_zero, List.set_cons_succ, Nat.reduceAdd, Nat.reduceSub, Nat.zero_add, Option.getD_some, Bool.not_true, Bool.not_false, if_true, if_false, ite_true, ite_false, Bool.false_eq_true, reduceIte, decide_eq_true_eq, true_and, and_true]
    refine ⟨by omega, by omega, lc_draw (xs0 := xs1) (by rw [put_ne hap, put_same]) (fun i xs1 M1 e1 Qe k => ?_) (by omega) fun w1 xs2 hw1 p2 hp2 => ?_⟩
    · simp only [G3.wpSs, G3.wpS, G3.wpE, G3.wpEL, G3.wpO, G3.wpTO, G3.wpT, G3.wpAnd, G3.wpOr, G3.wpAndT, G3.wpOrT, G3.wpI, G3.wpG, G3.wpGs, G3.wipe3, G3.st3, G3.bi3, G3.me3, G3.Me.ty, G3.rets, some3_some, some3_none, atI0, atI1, atI2, atI3, ix3_tup, ix3_cl, getR3_ref, len3_tup, len3_cl, G3.add_int, add_tup, G3.sub_int, G3.mul_int, fdiv_int, G3.mod_int, pow_int, shl_int, aadd_int, asub_int, G3.eq_int, G3.ne_int, G3.lt_int, G3.le_int, G3.gt_int, G3.ge_int, isN_, notN_, inn_, nin_, in3_tup, isNon_int, isNon_non, isNon_tup, isNon_ref, isB3_bl, isI_int, one_, two_, tru_bl, tru_int, tru_non, tru_tup, int3_int, int3_bl, seqAt_tup, listAt_cl, list3_tup, sl3_tup, sl3_cl, neg3_int, seqI_tup, seqI_cl, zip3_tup, chain_t, chain_f, Option.bind_some, List.map_cons, List.map_nil, List.length_cons, List.length_nil, List.length_map, List.length_replicate, List.length_append, List.replicate, List.cons_append, List.nil_append, List.append_nil, Nat.sub_self, List.getElem?_cons_zero, List.getElem?_cons_succ, List.set_cons_zero, List.set_cons_succ, Nat.reduceAdd, Nat.reduceSub, Nat.zero_add, Option.getD_some, Bool.not_true, Bool.not_false, if_true, if_false, ite_true, ite_false, Bool.false_eq_true, reduceIte, decide_eq_true_eq, true_and, and_true]
      exact ⟨a, xs1, rfl, e1, k⟩
    · simp only [listAt_ref put_same, seqAt_ref put_same, G3.wpSs, G3.wpS, G3.wpE, G3.wpEL, G3.wpO, G3.wpTO, G3.wpT, G3.wpAnd, G3.wpOr, G3.wpAndT, G3.wpOrT, G3.wpI, G3.wpG, G3.wpGs, G3.wipe3, G3.st3, G3.bi3, G3.me3, G3.Me.ty, G3.rets, some3_some, some3_none, atI0, atI1, atI2, atI3, ix3_tup, ix3_cl, getR3_ref, len3_tup, len3_cl, G3.add_int, add_tup, G3.sub_int, G3.mul_int, fdiv_int, G3.mod_int, pow_int, shl_int, aadd_int, asub_int, G3.eq_int, G3.ne_int, G3.lt_int, G3.le_int, G3.gt_int, G3.ge_int, isN_, notN_, inn_, nin_, in3_tup, isNon_int, isNon_non, isNon_tup, isNon_ref, isB3_bl, isI_int, one_, two_, tru_bl, tru_int, tru_non, tru_tup, int3_int, int3_bl, seqAt_tup, listAt_cl, list3_tup, sl3_tup, sl3_cl, neg3_int, seqI_tup, seqI_cl, zip3_tup, chain_t, chain_f, Option.bind_some, List.map_cons, List.map_nil, List.length_cons, List.length_nil, List.length_map, List.length_replicate, List.length_append, List.replicate, List.cons_append, List.nil_append, List.append_nil, Nat.sub_self, List.getElem?_cons_zero, List.getElem?_cons_succ, List.set_cons_zero, List.set_cons_succ, Nat.reduceAdd, Nat.reduceSub, Nat.zero_add, Option.getD_some, Bool.not_true, Bool.not_false, if_true, if_false, ite_true, ite_false, Bool.false_eq_true, reduceIte, decide_eq_true_eq, true_and, and_true]
      obtain ⟨g1, g2⟩ := put_free hp2
      refine wk_sub (M' := put (put (put (put M a _) p1 _) a _) p2 _) ?_ (h w0 w1 xs2 hw0 hw1)
      rw [put_comm (Ne.symm hap), put_put]
      exact (Sub.new (by rw [put_ne (Ne.symm hap)]; exact hp1)).put_free (by rw [put_ne (fun z => by subst z; obtain ⟨g3, g4⟩ := put_free g1; rw [e] at g3; cases g3)]; exact (put_free g1).1)
theorem t__law_low_wheels : ∀ ds M Q, sp_wheels ds M Q → G3.wpSs (b__law_low_wheels sp__law_take) (rets Q) (st3 n__law_low_wheels.length ds) M := by
  rintro ds M Q ⟨a, xs, p, q, rfl, e, hp, hq, h⟩
  simp only [n__law_low_wheels, b__law_low_wheels, Int.toNat_natCast, G3.wpSs, G3.wpS, G3.wpE, G3.wpEL, G3.wpO, G3.wpTO, G3.wpT, G3.wpAnd, G3.wpOr, G3.wpAndT, G3.wpOrT, G3.wpI, G3.wpG, G3.wpGs, G3.wipe3, G3.st3, G3.bi3, G3.me3, G3.Me.ty, G3.rets, some3_some, some3_none, atI0, atI1, atI2, atI3, ix3_tup, ix3_cl, getR3_ref, len3_tup, len3_cl, G3.add_int, add_tup, G3.sub_int, G3.mul_int, fdiv_int, G3.mod_int, pow_int, shl_int, aadd_int, asub_int, G3.eq_int, G3.ne_int, G3.lt_int, G3.le_int, G3.gt_int, G3.ge_int, isN_, notN_, inn_, nin_, in3_tup, isNon_int, isNon_non, isNon_tup, isNon_ref, isB3_bl, isI_int, one_, two_, tru_bl, tru_int, tru_non, tru_tup, int3_int, int3_bl, seqAt_tup, listAt_cl, list3_tup, sl3_tup, sl3_cl, neg3_int, seqI_tup, seqI_cl, zip3_tup, chain_t, chain_f, Option.bind_some, List.map_cons, List.map_nil, List.length_cons, List.length_nil, List.length_map, List.length_replicate, List.length_append, List.replicate, List.cons_append, List.nil_append, List.append_nil, Nat.sub_self, List.getElem?_cons_zero, List.getElem?_cons_succ, List.set_cons_zero, List.set_cons_succ, Nat.reduceAdd, Nat.reduceSub, Nat.zero_add, Option.getD_some, Bool.not_true, Bool.not_false, if_true, if_false, ite_true, ite_false, Bool.false_eq_true, reduceIte, decide_eq_true_eq, true_and, and_true]
  refine ⟨by omega, by omega, lc_draw e (fun i xs1 M1 e1 Qe k => ?_) (by omega) fun w0 xs1 hw0 p1 hp1 => ?_⟩
  · simp only [G3.wpSs, G3.wpS, G3.wpE, G3.wpEL, G3.wpO, G3.wpTO, G3.wpT, G3.wpAnd, G3.wpOr, G3.wpAndT, G3.wpOrT, G3.wpI, G3.wpG, G3.wpGs, G3.wipe3, G3.st3, G3.bi3, G3.me3, G3.Me.ty, G3.rets, some3_some, some3_none, atI0, atI1, atI2, atI3, ix3_tup, ix3_cl, getR3_ref, len3_tup, len3_cl, G3.add_int, add_tup, G3.sub_int, G3.mul_int, fdiv_int, G3.mod_int, pow_int, shl_int, aadd_int, asub_int, G3.eq_int, G3.ne_int, G3.lt_int, G3.le_int, G3.gt_int, G3.ge_int, isN_, notN_, inn_, nin_, in3_tup, isNon_int, isNon_non, isNon_tup, isNon_ref, isB3_bl, isI_int, one_, two_, tru_bl, tru_int, tru_non, tru_tup, int3_int, int3_bl, seqAt_tup, listAt_cl, list3_tup, sl3_tup, sl3_cl, neg3_int, seqI_tup, seqI_cl, zip3_tup, chain_t, chain_f, Option.bind_some, List.map_cons, List.map_nil, List.length_cons, List.length_nil, List.length_map, List.length_replicate, List.length_append, List.replicate, List.cons_append, List.nil_append, List.append_nil, Nat.sub_self, List.getElem?_cons_zero, List.getElem?_cons_succ, List.set_cons_zero, List.set_cons_succ, Nat.reduceAdd, Nat.reduceSub, Nat.zero_add, Option.getD_some, Bool.not_true, Bool.not_false, if_true, if_false, ite_true, ite_false, Bool.false_eq_true, reduceIte, decide_eq_true_eq, true_and, and_true]
    exact take_step e1 (by decide) fun r xs' _ _ => k r xs'
  · have hap : a ≠ p1 := fun z => by subst z; rw [hp1] at e; cases e
    simp only [listAt_ref put_same, seqAt_ref put_same, G3.wpSs, G3.wpS, G3.wpE, G3.wpEL, G3.wpO, G3.wpTO, G3.wpT, G3.wpAnd, G3.wpOr, G3.wpAndT, G3.wpOrT, G3.wpI, G3.wpG, G3.wpGs, G3.wipe3, G3.st3, G3.bi3, G3.me3, G3.Me.ty, G3.rets, some3_some, some3_none, atI0, atI1, atI2, atI3, ix3_tup, ix3_cl, getR3_ref, len3_tup, len3_cl, G3.add_int, add_tup, G3.sub_int, G3.mul_int, fdiv_int, G3.mod_int, pow_int, shl_int, aadd_int, asub_int, G3.eq_int, G3.ne_int, G3.lt_int, G3.le_int, G3.gt_int, G3.ge_int, isN_, notN_, inn_, nin_, in3_tup, isNon_int, isNon_non, isNon_tup, isNon_ref, isB3_bl, isI_int, one_, two_, tru_bl, tru_int, tru_non, tru_tup, int3_int, int3_bl, seqAt_tup, listAt_cl, list3_tup, sl3_tup, sl3_cl, neg3_int, seqI_tup, seqI_cl, zip3_tup, chain_t, chain_f, Option.bind_some, List.map_cons, List.map_nil, List.length_cons, List.length_nil, List.length_map, List.length_replicate, List.length_append, List.replicate, List.cons_append, List.nil_append, List.append_nil, Nat.sub_self, List.getElem?_cons_zero, List.getElem?_cons_succ, List.set_cons_zero, List.set_cons_succ, Nat.reduceAdd, Nat.reduceSub, Nat.zero_add, Option.getD_some, Bool.not_true, Bool.not_false, if_true, if_false, ite_true, ite_false, Bool.false_eq_true, reduceIte, decide_eq_true_eq, true_and, and_true]
    refine ⟨by omega, by omega, lc_draw (xs0 := xs1) (by rw [put_ne hap, put_same]) (fun i xs1 M1 e1 Qe k => ?_) (by omega) fun w1 xs2 hw1 p2 hp2 => ?_⟩
    · simp only [G3.wpSs, G3.wpS, G3.wpE, G3.wpEL, G3.wpO, G3.wpTO, G3.wpT, G3.wpAnd, G3.wpOr, G3.wpAndT, G3.wpOrT, G3.wpI, G3.wpG, G3.wpGs, G3.wipe3, G3.st3, G3.bi3, G3.me3, G3.Me.ty, G3.rets, some3_some, some3_none, atI0, atI1, atI2, atI3, ix3_tup, ix3_cl, getR3_ref, len3_tup, len3_cl, G3.add_int, add_tup, G3.sub_int, G3.mul_int, fdiv_int, G3.mod_int, pow_int, shl_int, aadd_int, asub_int, G3.eq_int, G3.ne_int, G3.lt_int, G3.le_int, G3.gt_int, G3.ge_int, isN_, notN_, inn_, nin_, in3_tup, isNon_int, isNon_non, isNon_tup, isNon_ref, isB3_bl, isI_int, one_, two_, tru_bl, tru_int, tru_non, tru_tup, int3_int, int3_bl, seqAt_tup, listAt_cl, list3_tup, sl3_tup, sl3_cl, neg3_int, seqI_tup, seqI_cl, zip3_tup, chain_t, chain_f, Option.bind_some, List.map_cons, List.map_nil, List.length_cons, List.length_nil, List.length_map, List.length_replicate, List.length_append, List.replicate, List.cons_append, List.nil_append, List.append_nil, Nat.sub_self, List.getElem?_cons_zero, List.getElem?_cons_succ, List.set_cons_zero, List.set_cons_succ, Nat.reduceAdd, Nat.reduceSub, Nat.zero_add, Option.getD_some, Bool.not_true, Bool.not_false, if_true, if_false, ite_true, ite_false, Bool.false_eq_true, reduceIte, decide_eq_true_eq, true_and, and_true]
      exact take_step e1 (by decide) fun r xs' _ _ => k r xs'
    · simp only [listAt_ref put_same, seqAt_ref put_same, G3.wpSs, G3.wpS, G3.wpE, G3.wpEL, G3.wpO, G3.wpTO, G3.wpT, G3.wpAnd, G3.wpOr, G3.wpAndT, G3.wpOrT, G3.wpI, G3.wpG, G3.wpGs, G3.wipe3, G3.st3, G3.bi3, G3.me3, G3.Me.ty, G3.rets, some3_some, some3_none, atI0, atI1, atI2, atI3, ix3_tup, ix3_cl, getR3_ref, len3_tup, len3_cl, G3.add_int, add_tup, G3.sub_int, G3.mul_int, fdiv_int, G3.mod_int, pow_int, shl_int, aadd_int, asub_int, G3.eq_int, G3.ne_int, G3.lt_int, G3.le_int, G3.gt_int, G3.ge_int, isN_, notN_, inn_, nin_, in3_tup, isNon_int, isNon_non, isNon_tup, isNon_ref, isB3_bl, isI_int, one_, two_, tru_bl, tru_int, tru_non, tru_tup, int3_int, int3_bl, seqAt_tup, listAt_cl, list3_tup, sl3_tup, sl3_cl, neg3_int, seqI_tup, seqI_cl, zip3_tup, chain_t, chain_f, Option.bind_some, List.map_cons, List.map_nil, List.length_cons, List.length_nil, List.length_map, List.length_replicate, List.length_append, List.replicate, List.cons_append, List.nil_append, List.append_nil, Nat.sub_self, List.getElem?_cons_zero, List.getElem?_cons_succ, List.set_cons_zero, List.set_cons_succ, Nat.reduceAdd, Nat.reduceSub, Nat.zero_add, Option.getD_some, Bool.not_true, Bool.not_false, if_true, if_false, ite_true, ite_false, Bool.false_eq_true, reduceIte, decide_eq_true_eq, true_and, and_true]
      obtain ⟨g1, g2⟩ := put_free hp2
      refine wk_sub (M' := put (put (put (put M a _) p1 _) a _) p2 _) ?_ (h w0 w1 xs2 hw0 hw1)
      rw [put_comm (Ne.symm hap), put_put]
      exact (Sub.new (by rw [put_ne (Ne.symm hap)]; exact hp1)).put_free (by rw [put_ne (fun z => by subst z; obtain ⟨g3, g4⟩ := put_free g1; rw [e] at g3; cases g3)]; exact (put_free g1).1)
/-! ### the law's own heights -/
theorem t__law_tide_height : ∀ ds M Q, sp_height_at ds M Q → G3.wpSs b__law_tide_height (rets Q) (st3 n__law_tide_height.length ds) M := by
  rintro ds M Q ⟨w0, w1, t, rfl, h0, h1, q⟩
  obtain ⟨a1, a2, a3⟩ := emod_in (t := t) h0
  obtain ⟨b1, b2, b3⟩ := emod_in (t := t) h1
  simp only [n__law_tide_height, b__law_tide_height, whl, encI, G3.wpSs, G3.wpS, G3.wpE, G3.wpEL, G3.wpO, G3.wpTO, G3.wpT, G3.wpAnd, G3.wpOr, G3.wpAndT, G3.wpOrT, G3.wpI, G3.wpG, G3.wpGs, G3.wipe3, G3.st3, G3.bi3, G3.me3, G3.Me.ty, G3.rets, some3_some, some3_none, atI0, atI1, atI2, atI3, ix3_tup, ix3_cl, getR3_ref, len3_tup, len3_cl, G3.add_int, add_tup, G3.sub_int, G3.mul_int, fdiv_int, G3.mod_int, pow_int, shl_int, aadd_int, asub_int, G3.eq_int, G3.ne_int, G3.lt_int, G3.le_int, G3.gt_int, G3.ge_int, isN_, notN_, inn_, nin_, in3_tup, isNon_int, isNon_non, isNon_tup, isNon_ref, isB3_bl, isI_int, one_, two_, tru_bl, tru_int, tru_non, tru_tup, int3_int, int3_bl, seqAt_tup, listAt_cl, list3_tup, sl3_tup, sl3_cl, neg3_int, seqI_tup, seqI_cl, zip3_tup, chain_t, chain_f, Option.bind_some, List.map_cons, List.map_nil, List.length_cons, List.length_nil, List.length_map, List.length_replicate, List.length_append, List.replicate, List.cons_append, List.nil_append, List.append_nil, Nat.sub_self, List.getElem?_cons_zero, List.getElem?_cons_succ, List.set_cons_zero, List.set_cons_succ, Nat.reduceAdd, Nat.reduceSub, Nat.zero_add, Option.getD_some, Bool.not_true, Bool.not_false, if_true, if_false, ite_true, ite_false, Bool.false_eq_true, reduceIte, decide_eq_true_eq, true_and, and_true]
  rw [atI_ints a2 a3, atI_ints b2 b3]
  simp only [G3.wpSs, G3.wpS, G3.wpE, G3.wpEL, G3.wpO, G3.wpTO, G3.wpT, G3.wpAnd, G3.wpOr, G3.wpAndT, G3.wpOrT, G3.wpI, G3.wpG, G3.wpGs, G3.wipe3, G3.st3, G3.bi3, G3.me3, G3.Me.ty, G3.rets, some3_some, some3_none, atI0, atI1, atI2, atI3, ix3_tup, ix3_cl, getR3_ref, len3_tup, len3_cl, G3.add_int, add_tup, G3.sub_int, G3.mul_int, fdiv_int, G3.mod_int, pow_int, shl_int, aadd_int, asub_int, G3.eq_int, G3.ne_int, G3.lt_int, G3.le_int, G3.gt_int, G3.ge_int, isN_, notN_, inn_, nin_, in3_tup, isNon_int, isNon_non, isNon_tup, isNon_ref, isB3_bl, isI_int, one_, two_, tru_bl, tru_int, tru_non, tru_tup, int3_int, int3_bl, seqAt_tup, listAt_cl, list3_tup, sl3_tup, sl3_cl, neg3_int, seqI_tup, seqI_cl, zip3_tup, chain_t, chain_f, Option.bind_some, List.map_cons, List.map_nil, List.length_cons, List.length_nil, List.length_map, List.length_replicate, List.length_append, List.replicate, List.cons_append, List.nil_append, List.append_nil, Nat.sub_self, List.getElem?_cons_zero, List.getElem?_cons_succ, List.set_cons_zero, List.set_cons_succ, Nat.reduceAdd, Nat.reduceSub, Nat.zero_add, Option.getD_some, Bool.not_true, Bool.not_false, if_true, if_false, ite_true, ite_false, Bool.false_eq_true, reduceIte, decide_eq_true_eq, true_and, and_true]
  exact ⟨a1, b1, wk.of q⟩
theorem t__law_tide_round : ∀ ds M Q, sp_round_heights ds M Q → G3.wpSs (b__law_tide_round sp__law_gcd sp_height_at) (rets Q) (st3 n__law_tide_round.length ds) M := by
  rintro ds M Q ⟨w0, w1, rfl, w, q⟩
  have hl := lcm_le w.l0 w.l1
  have l0 := w.l0
  have l1 := w.l1
  have p0 := List.length_pos_iff.mpr w.h0
  simp only [n__law_tide_round, b__law_tide_round, whl, encI, G3.wpSs, G3.wpS, G3.wpE, G3.wpEL, G3.wpO, G3.wpTO, G3.wpT, G3.wpAnd, G3.wpOr, G3.wpAndT, G3.wpOrT, G3.wpI, G3.wpG, G3.wpGs, G3.wipe3, G3.st3, G3.bi3, G3.me3, G3.Me.ty, G3.rets, some3_some, some3_none, atI0, atI1, atI2, atI3, ix3_tup, ix3_cl, getR3_ref, len3_tup, len3_cl, G3.add_int, add_tup, G3.sub_int, G3.mul_int, fdiv_int, G3.mod_int, pow_int, shl_int, aadd_int, asub_int, G3.eq_int, G3.ne_int, G3.lt_int, G3.le_int, G3.gt_int, G3.ge_int, isN_, notN_, inn_, nin_, in3_tup, isNon_int, isNon_non, isNon_tup, isNon_ref, isB3_bl, isI_int, one_, two_, tru_bl, tru_int, tru_non, tru_tup, int3_int, int3_bl, seqAt_tup, listAt_cl, list3_tup, sl3_tup, sl3_cl, neg3_int, seqI_tup, seqI_cl, zip3_tup, chain_t, chain_f, Option.bind_some, List.map_cons, List.map_nil, List.length_cons, List.length_nil, List.length_map, List.length_replicate, List.length_append, List.replicate, List.cons_append, List.nil_append, List.append_nil, Nat.sub_self, List.getElem?_cons_zero, List.getElem?_cons_succ, List.set_cons_zero, List.set_cons_succ, Nat.reduceAdd, Nat.reduceSub, Nat.zero_add, Option.getD_some, Bool.not_true, Bool.not_false, if_true, if_false, ite_true, ite_false, Bool.false_eq_true, reduceIte, decide_eq_true_eq, true_and, and_true]
  have hm : w0.length * w1.length ≤ 10000 := Nat.mul_le_mul l0 l1
  refine ⟨MulOk_small (by omega) (by omega), w0.length, w1.length, rfl, by omega, ?_⟩
  have hg : 0 < Nat.gcd w0.length w1.length := Nat.gcd_pos_of_pos_left _ p0
  have hg2 : Nat.gcd w0.length w1.length ≤ w0.length := Nat.gcd_le_left _ p0
  have el : (w0.length : Int) * w1.length / (Nat.gcd w0.length w1.length : Nat) = (lcmN w0 w1 : Nat) := by
    unfold lcmN Nat.lcm
    rw [Int.natCast_ediv, Int.natCast_mul]
  simp only [G3.wpSs, G3.wpS, G3.wpE, G3.wpEL, G3.wpO, G3.wpTO, G3.wpT, G3.wpAnd, G3.wpOr, G3.wpAndT, G3.wpOrT, G3.wpI, G3.wpG, G3.wpGs, G3.wipe3, G3.st3, G3.bi3, G3.me3, G3.Me.ty, G3.rets, some3_some, some3_none, atI0, atI1, atI2, atI3, ix3_tup, ix3_cl, getR3_ref, len3_tup, len3_cl, G3.add_int, add_tup, G3.sub_int, G3.mul_int, fdiv_int, G3.mod_int, pow_int, shl_int, aadd_int, asub_int, G3.eq_int, G3.ne_int, G3.lt_int, G3.le_int, G3.gt_int, G3.ge_int, isN_, notN_, inn_, nin_, in3_tup, isNon_int, isNon_non, isNon_tup, isNon_ref, isB3_bl, isI_int, one_, two_, tru_bl, tru_int, tru_non, tru_tup, int3_int, int3_bl, seqAt_tup, listAt_cl, list3_tup, sl3_tup, sl3_cl, neg3_int, seqI_tup, seqI_cl, zip3_tup, chain_t, chain_f, Option.bind_some, List.map_cons, List.map_nil, List.length_cons, List.length_nil, List.length_map, List.length_replicate, List.length_append, List.replicate, List.cons_append, List.nil_append, List.append_nil, Nat.sub_self, List.getElem?_cons_zero, List.getElem?_cons_succ, List.set_cons_zero, List.set_cons_succ, Nat.reduceAdd, Nat.reduceSub, Nat.zero_add, Option.getD_some, Bool.not_true, Bool.not_false, if_true, if_false, ite_true, ite_false, Bool.false_eq_true, reduceIte, decide_eq_true_eq, true_and, and_true]
  rw [el]
  refine ⟨⟨by omega, .inl (by omega)⟩, by omega, by omega, ?_⟩
  refine lc_mp (fun k : Nat => .int (0 + k * 1)) (List.range (lcmN w0 w1)) (fun k : Nat => .int (hgt w0 w1 k)) (fun _ _ => trivial) (fun k hk M' sb Qe h => ?_) (by rw [List.length_range, sline]; omega) (newL_wk ?_)
  · simp only [G3.wpSs, G3.wpS, G3.wpE, G3.wpEL, G3.wpO, G3.wpTO, G3.wpT, G3.wpAnd, G3.wpOr, G3.wpAndT, G3.wpOrT, G3.wpI, G3.wpG, G3.wpGs, G3.wipe3, G3.st3, G3.bi3, G3.me3, G3.Me.ty, G3.rets, some3_some, some3_none, atI0, atI1, atI2, atI3, ix3_tup, ix3_cl, getR3_ref, len3_tup, len3_cl, G3.add_int, add_tup, G3.sub_int, G3.mul_int, fdiv_int, G3.mod_int, pow_int, shl_int, aadd_int, asub_int, G3.eq_int, G3.ne_int, G3.lt_int, G3.le_int, G3.gt_int, G3.ge_int, isN_, notN_, inn_, nin_, in3_tup, isNon_int, isNon_non, isNon_tup, isNon_ref, isB3_bl, isI_int, one_, two_, tru_bl, tru_int, tru_non, tru_tup, int3_int, int3_bl, seqAt_tup, listAt_cl, list3_tup, sl3_tup, sl3_cl, neg3_int, seqI_tup, seqI_cl, zip3_tup, chain_t, chain_f, Option.bind_some, List.map_cons, List.map_nil, List.length_cons, List.length_nil, List.length_map, List.length_replicate, List.length_append, List.replicate, List.cons_append, List.nil_append, List.append_nil, Nat.sub_self, List.getElem?_cons_zero, List.getElem?_cons_succ, List.set_cons_zero, List.set_cons_succ, Nat.reduceAdd, Nat.reduceSub, Nat.zero_add, Option.getD_some, Bool.not_true, Bool.not_false, if_true, if_false, ite_true, ite_false, Bool.false_eq_true, reduceIte, decide_eq_true_eq, true_and, and_true]
    refine ⟨w0, w1, _, rfl, w.h0, w.h1, ?_⟩
    rw [Int.mul_one, Int.zero_add]
    exact h _ .refl
  · unfold rh at q
    rw [List.map_map] at q
    exact q
theorem pick_step {M : Mp} {a p : Addr} {xs : List Int} {l : List D} {Q : K3} (e : M a = some (.lst (xs.map .int))) (ep : M p = some (.lst l)) (hap : a ≠ p) (hl : l ≠ []) (q : ∀ (r : D) (xs' : List Int), r ∈ l → Q r (put M a (.lst (xs'.map .int)))) : sp__law_pick [.ref a, .ref p] M Q := ⟨a, p, xs, l, rfl, e, ep, hap, hl, q⟩
theorem hour_step {M : Mp} {a : Addr} {xs : List Int} {m : Int} {Q : K3} (e : M a = some (.lst (xs.map .int))) (hm : 0 < m) (q : ∀ (r : Int) (xs' : List Int), Q (.int r) (put M a (.lst (xs'.map .int)))) : sp__law_tide_hour [.ref a, .int m] M Q := ⟨a, xs, m, rfl, e, hm, fun r xs' _ => q r xs'⟩
theorem mem_ints {r : D} {l : List Int} (h : r ∈ l.map D.int) : ∃ z, r = .int z := by
  obtain ⟨z, _, e⟩ := List.mem_map.mp h
  exact ⟨z, e.symm⟩
/-- the draws at a may have gone on -/
def Go (M : Mp) (a : Addr) (M' : Mp) : Prop := ∃ xs : List Int, Sub (put M a (.lst (xs.map .int))) M'
theorem Go.at {M M' : Mp} {a : Addr} (g : Go M a M') : ∃ xs : List Int, M' a = some (.lst (xs.map .int)) := by
  obtain ⟨xs, s⟩ := g
  exact ⟨xs, s _ _ put_same⟩
theorem Go.put {M M' : Mp} {a : Addr} (g : Go M a M') (xs : List Int) : Go M a (put M' a (.lst (xs.map .int))) := by
  obtain ⟨xs', s⟩ := g
  refine ⟨xs, ?_⟩
  have := s.put a (.lst (xs.map .int))
  rwa [put_put] at this
theorem Go.sub {M M' M'' : Mp} {a : Addr} (g : Go M a M') (s : Sub M' M'') : Go M a M'' := by
  obtain ⟨xs', s'⟩ := g
  exact ⟨xs', s'.trans s⟩
theorem Go.refl {M : Mp} {a : Addr} {xs : List Int} (e : M a = some (.lst (xs.map .int))) : Go M a M := ⟨xs, by rw [put_self e]; exact .refl⟩
theorem Go.keep {M M' : Mp} {a p : Addr} {o : MO} (g : Go M a M') (e : M p = some o) (h : p ≠ a) : M' p = some o := by
  obtain ⟨xs', s'⟩ := g
  exact s' _ _ (by rw [put_ne h]; exact e)
theorem Go.trans {M M' M'' : Mp} {a : Addr} (g : Go M a M') (h : Go M' a M'') : Go M a M'' := by
  obtain ⟨xs', s'⟩ := h
  exact (g.put xs').sub s'
theorem Go.ne {M : Mp} {a p : Addr} {xs : List Int} (e : M a = some (.lst (xs.map .int))) (h : M p = none) : p ≠ a := fun z => by subst z; rw [e] at h; cases h
theorem same_ok {d : D} {M : Mp} {Q : K3} (f : okF d) (q : Q (.bl true) M) : sp__law_same 2 [d, d] M Q := ⟨d, d, rfl, same_one f, q⟩
def optD : Option Int → D
  | none => .non
  | some x => .int x
theorem fm_filter {f : Int → Int} {P : Int → Bool} : ∀ l : List Int, l.filterMap (fun o => if P o = true then some (D.int (f o)) else none) = ((l.filter P).map f).map .int
  | [] => rfl
  | a :: l => by
    rw [List.filterMap_cons, List.filter_cons]
    by_cases h : P a = true
    · simp only [if_pos h]; rw [fm_filter l]; rfl
    · simp only [if_neg h]; rw [fm_filter l]
theorem okF_opt : ∀ o : Option Int, okF (optD o)
  | none => trivial
  | some _ => trivial
end G3w
set_option Elab.async false
set_option maxRecDepth 100000
set_option maxHeartbeats 16000000
namespace K82
open PySem PySem.Spec PyProof.Rows L2 G3 G3w
def top (i : Nat) : Stmt := PySem.Challenge.pw_gristbytides_k82_periods_and_clocks.main.body.getD i (.Pass ⟨0, 0, 0, 0⟩)
def bl : List Str := ["len", "abs", "int", "max", "min", "list", "tuple", "all", "isinstance", "range", "bool", "str"]
def im : List (Str × String) := [("lcm", "math.lcm")]
/-! height_at -/
def c_height_at : Ck := ⟨n_height_at, bl, im⟩
theorem s_height_at : FnScope n_height_at ["wheels", "hour"] (defScope (top 2)) := ⟨rfl, rfl, rfl, by decide +kernel, rfl, by decide +kernel, by decide +kernel⟩
theorem k_height_at : chkSs c_height_at (defScope (top 2)) (b_height_at) (defBody (top 2)) = true := by kernel_rfl
/-! do_wheels_fit -/
def n_do_wheels_fit : List Str := ["wheels", "marks", "hour", "height"]
def c_do_wheels_fit : Ck := ⟨n_do_wheels_fit, bl, im⟩
theorem s_do_wheels_fit : FnScope n_do_wheels_fit ["wheels", "marks"] (defScope (top 3)) := ⟨rfl, rfl, rfl, by decide +kernel, rfl, by decide +kernel, by decide +kernel⟩
def b_do_wheels_fit (sp_height_at : Sp3) : SL := (.cons (.ret (.bi .all (.cons (.lc [("hour", 2), ("height", 3)] (.tup (.cons (.nm 2) (.cons (.nm 3) .nil))) (.seq (.v 1)) .no (.cmp .eq (.call
  "height_at" sp_height_at (.cons (.v 0) (.cons (.v 2) .nil))) (.v 3))) .nil))) .nil)
theorem k_do_wheels_fit (sp_height_at : Sp3) : chkSs c_do_wheels_fit (defScope (top 3)) (b_do_wheels_fit sp_height_at) (defBody (top 3)) = true := by kernel_rfl
/-! joined_rests -/
def n_joined_rests : List Str := ["p", "q", "hours", "labels", "hour", "low", "one", "other", "label"]
def c_joined_rests : Ck := ⟨n_joined_rests, bl, im⟩
theorem s_joined_rests : FnScope n_joined_rests ["p", "q", "hours"] (defScope (top 4)) := ⟨rfl, rfl, rfl, by decide +kernel, rfl, by decide +kernel, by decide +kernel⟩
def r1_joined_rests : SL := (.cons (.ret (.v 3)) .nil)
def b_joined_rests : SL := (.cons (.set (.nm 3) (.lrg (.bin .add (.v 0) (.v 1)))) (.cons (.for_ (.nm 4) (.seq (.v 2)) (.cons (.set (.tup (.cons (.nm 6) (.cons (.nm 7) .nil))) (.tup (.cons (.ix (.v 3)
  (.bin .mod (.v 4) (.v 0))) (.cons (.ix (.v 3) (.bin .add (.v 0) (.bin .mod (.v 4) (.v 1)))) .nil)))) (.cons (.set (.nm 5) (.bi .min2 (.cons (.v 6) (.cons (.v 7) .nil)))) (.cons (.set (.nm 3) (.lc
  [("label", 8)] (.nm 8) (.seq (.v 3)) .no (.ite (.cmp .inn (.v 8) (.tup (.cons (.v 6) (.cons (.v 7) .nil)))) (.v 5) (.v 8)))) .nil)))) (r1_joined_rests)))
theorem k_joined_rests : chkSs c_joined_rests (defScope (top 4)) (b_joined_rests) (defBody (top 4)) = true := by kernel_rfl
/-! told_wheels -/
def n_told_wheels : List Str := ["p", "q", "marks", "labels", "known", "changed", "wheels", "label", "hour", "height", "one", "other", "_", "place"]
def c_told_wheels : Ck := ⟨n_told_wheels, bl, im⟩
theorem s_told_wheels : FnScope n_told_wheels ["p", "q", "marks"] (defScope (top 5)) := ⟨rfl, rfl, rfl, by decide +kernel, rfl, by decide +kernel, by decide +kernel⟩
def r1_told_wheels (sp_do_wheels_fit : Sp3) (sp_joined_rests : Sp3) : SL := (.cons (.set (.nm 6) (.tup (.cons (.bi .tuple (.cons (.lc [("place", 13)] (.nm 13) (.rng1 (.v 0)) .no (.ix (.v 4) (.v 13)))
  .nil)) (.cons (.bi .tuple (.cons (.lc [("place", 13)] (.nm 13) (.rng1 (.v 1)) .no (.ix (.v 4) (.bin .add (.v 0) (.v 13)))) .nil)) .nil)))) (.cons (.ret (.ite (.call "do_wheels_fit" sp_do_wheels_fit
  (.cons (.v 6) (.cons (.v 2) .nil))) (.v 6) (.c .non))) .nil))
def b_told_wheels (sp_do_wheels_fit : Sp3) (sp_joined_rests : Sp3) : SL := (.cons (.set (.nm 3) (.call "joined_rests" sp_joined_rests (.cons (.v 0) (.cons (.v 1) (.cons (.lc [("hour", 8), ("_", 12)]
  (.tup (.cons (.nm 8) (.cons (.nm 12) .nil))) (.seq (.v 2)) .no (.v 8)) .nil))))) (.cons (.set (.nm 4) (.dc [("label", 7)] (.nm 7) (.seq (.v 3)) .no (.v 7) (.c (.int 0)))) (.cons (.set (.nm 5) (.c
  (.bl true))) (.cons (.whil (.v 5) (.cons (.set (.nm 5) (.c (.bl false))) (.cons (.for_ (.tup (.cons (.nm 8) (.cons (.nm 9) .nil))) (.seq (.v 2)) (.cons (.par 10 11 (.bin .mod (.v 8) (.v 0)) (.bin
  .add (.v 0) (.bin .mod (.v 8) (.v 1)))) (.cons (.ite (.and (.cons (.cmp .inn (.v 10) (.v 4)) (.cons (.cmp .nin (.v 11) (.v 4)) .nil))) (.cons (.setSub (.v 4) (.v 11) (.bin .sub (.v 9) (.ix (.v 4)
  (.v 10)))) (.cons (.set (.nm 5) (.c (.bl true))) .nil)) (.cons (.ite (.and (.cons (.cmp .inn (.v 11) (.v 4)) (.cons (.cmp .nin (.v 10) (.v 4)) .nil))) (.cons (.setSub (.v 4) (.v 10) (.bin .sub (.v
  9) (.ix (.v 4) (.v 11)))) (.cons (.set (.nm 5) (.c (.bl true))) .nil)) .nil) .nil)) .nil))) .nil))) (r1_told_wheels sp_do_wheels_fit sp_joined_rests)))))
theorem k_told_wheels (sp_do_wheels_fit : Sp3) (sp_joined_rests : Sp3) : chkSs c_told_wheels (defScope (top 5)) (b_told_wheels sp_do_wheels_fit sp_joined_rests) (defBody (top 5)) = true := by kernel_rfl
/-! fitting_periods -/
def n_fitting_periods : List Str := ["marks", "most", "pairs", "p", "q"]
def c_fitting_periods : Ck := ⟨n_fitting_periods, bl, im⟩
theorem s_fitting_periods : FnScope n_fitting_periods ["marks", "most"] (defScope (top 7)) := ⟨rfl, rfl, rfl, by decide +kernel, rfl, by decide +kernel, by decide +kernel⟩
def b_fitting_periods (sp_told_wheels : Sp3) : SL := (.cons (.set (.nm 2) (.lc2 [("p", 3), ("q", 4)] (.nm 3) (.rng2 (.c (.int 1)) (.bin .add (.v 1) (.c (.int 1)))) [4] (.nm 4) (.rng2 (.v 3) (.bin .add
  (.v 1) (.c (.int 1)))) (.tup (.cons (.v 3) (.cons (.v 4) .nil))))) (.cons (.ret (.bi .tuple (.cons (.lc [("p", 3), ("q", 4)] (.tup (.cons (.nm 3) (.cons (.nm 4) .nil))) (.seq (.v 2)) (.ex (.cmp
  .notN (.call "told_wheels" sp_told_wheels (.cons (.v 3) (.cons (.v 4) (.cons (.v 0) .nil)))) (.c .non))) (.tup (.cons (.v 3) (.cons (.v 4) .nil)))) .nil))) .nil))
theorem k_fitting_periods (sp_told_wheels : Sp3) : chkSs c_fitting_periods (defScope (top 7)) (b_fitting_periods sp_told_wheels) (defBody (top 7)) = true := by kernel_rfl
/-! later_marks -/
def n_later_marks : List Str := ["marks", "more", "hour", "height"]
def c_later_marks : Ck := ⟨n_later_marks, bl, im⟩
theorem s_later_marks : FnScope n_later_marks ["marks", "more"] (defScope (top 8)) := ⟨rfl, rfl, rfl, by decide +kernel, rfl, by decide +kernel, by decide +kernel⟩
def b_later_marks : SL := (.cons (.ret (.bi .tuple (.cons (.lc [("hour", 2), ("height", 3)] (.tup (.cons (.nm 2) (.cons (.nm 3) .nil))) (.seq (.v 0)) .no (.tup (.cons (.bin .add (.v 2) (.v 1)) (.cons
  (.v 3) .nil)))) .nil))) .nil)
theorem k_later_marks : chkSs c_later_marks (defScope (top 8)) (b_later_marks) (defBody (top 8)) = true := by kernel_rfl
/-! fitting_offsets -/
def n_fitting_offsets : List Str := ["wheels", "marks", "whole_round", "more"]
def c_fitting_offsets : Ck := ⟨n_fitting_offsets, bl, im⟩
theorem s_fitting_offsets : FnScope n_fitting_offsets ["wheels", "marks"] (defScope (top 9)) := ⟨rfl, rfl, rfl, by decide +kernel, rfl, by decide +kernel, by decide +kernel⟩
def b_fitting_offsets (sp_do_wheels_fit : Sp3) (sp_later_marks : Sp3) : SL := (.cons (.set (.nm 2) (.bi .lcm (.cons (.bi .len (.cons (.ix (.v 0) (.c (.int 0))) .nil)) (.cons (.bi .len (.cons (.ix (.v
  0) (.c (.int 1))) .nil)) .nil)))) (.cons (.ret (.bi .tuple (.cons (.lc [("more", 3)] (.nm 3) (.rng1 (.v 2)) (.ex (.call "do_wheels_fit" sp_do_wheels_fit (.cons (.v 0) (.cons (.call "later_marks"
  sp_later_marks (.cons (.v 1) (.cons (.v 3) .nil))) .nil)))) (.v 3)) .nil))) .nil))
theorem k_fitting_offsets (sp_do_wheels_fit : Sp3) (sp_later_marks : Sp3) : chkSs c_fitting_offsets (defScope (top 9)) (b_fitting_offsets sp_do_wheels_fit sp_later_marks) (defBody (top 9)) = true := by kernel_rfl
/-! clock_height -/
def n_clock_height : List Str := ["wheels", "marks", "hour", "heights", "more"]
def c_clock_height : Ck := ⟨n_clock_height, bl, im⟩
theorem s_clock_height : FnScope n_clock_height ["wheels", "marks", "hour"] (defScope (top 10)) := ⟨rfl, rfl, rfl, by decide +kernel, rfl, by decide +kernel, by decide +kernel⟩
def b_clock_height (sp_fitting_offsets : Sp3) (sp_height_at : Sp3) : SL := (.cons (.set (.nm 3) (.dc [("more", 4)] (.nm 4) (.seq (.call "fitting_offsets" sp_fitting_offsets (.cons (.v 0) (.cons (.v 1)
  .nil)))) .no (.call "height_at" sp_height_at (.cons (.v 0) (.cons (.bin .add (.v 2) (.v 4)) .nil))) (.c (.bl true)))) (.cons (.ret (.ite (.cmp .eq (.bi .len (.cons (.v 3) .nil)) (.c (.int 1))) (.ix
  (.bi .list (.cons (.v 3) .nil)) (.c (.int 0))) (.c .non))) .nil))
theorem k_clock_height (sp_fitting_offsets : Sp3) (sp_height_at : Sp3) : chkSs c_clock_height (defScope (top 10)) (b_clock_height sp_fitting_offsets sp_height_at) (defBody (top 10)) = true := by kernel_rfl
/-! _law_draws -/
def c__law_draws : Ck := ⟨n__law_draws, bl, im⟩
theorem s__law_draws : FnScope n__law_draws ["script", "many"] (defScope (top 12)) := ⟨rfl, rfl, rfl, by decide +kernel, rfl, by decide +kernel, by decide +kernel⟩
theorem k__law_draws : chkSs c__law_draws (defScope (top 12)) (b__law_draws) (defBody (top 12)) = true := by kernel_rfl
/-! _law_take -/
def c__law_take : Ck := ⟨n__law_take, bl, im⟩
theorem s__law_take : FnScope n__law_take ["draws", "many"] (defScope (top 13)) := ⟨rfl, rfl, rfl, by decide +kernel, rfl, by decide +kernel, by decide +kernel⟩
theorem k__law_take : chkSs c__law_take (defScope (top 13)) (b__law_take) (defBody (top 13)) = true := by kernel_rfl
/-! _law_pick -/
def c__law_pick : Ck := ⟨n__law_pick, bl, im⟩
theorem s__law_pick : FnScope n__law_pick ["draws", "row"] (defScope (top 14)) := ⟨rfl, rfl, rfl, by decide +kernel, rfl, by decide +kernel, by decide +kernel⟩
theorem k__law_pick (sp__law_take : Sp3) : chkSs c__law_pick (defScope (top 14)) (b__law_pick sp__law_take) (defBody (top 14)) = true := by kernel_rfl
/-! _law_same -/
def c__law_same : Ck := ⟨n__law_same, bl, im⟩
theorem s__law_same : FnScope n__law_same ["actual", "due"] (defScope (top 15)) := ⟨rfl, rfl, rfl, by decide +kernel, rfl, by decide +kernel, by decide +kernel⟩
theorem k__law_same (sp__law_same : Sp3) : chkSs c__law_same (defScope (top 15)) (b__law_same sp__law_same) (defBody (top 15)) = true := by kernel_rfl
/-! _law_gcd -/
def c__law_gcd : Ck := ⟨n__law_gcd, bl, im⟩
theorem s__law_gcd : FnScope n__law_gcd ["one", "other"] (defScope (top 16)) := ⟨rfl, rfl, rfl, by decide +kernel, rfl, by decide +kernel, by decide +kernel⟩
theorem k__law_gcd : chkSs c__law_gcd (defScope (top 16)) (b__law_gcd) (defBody (top 16)) = true := by kernel_rfl
/-! _law_tide_number -/
def c__law_tide_number : Ck := ⟨n__law_tide_number, bl, im⟩
theorem s__law_tide_number : FnScope n__law_tide_number ["draws"] (defScope (top 17)) := ⟨rfl, rfl, rfl, by decide +kernel, rfl, by decide +kernel, by decide +kernel⟩
theorem k__law_tide_number (sp__law_pick : Sp3) (sp__law_take : Sp3) : chkSs c__law_tide_number (defScope (top 17)) (b__law_tide_number sp__law_pick sp__law_take) (defBody (top 17)) = true := by kernel_rfl
/-! _law_tide_hour -/
def c__law_tide_hour : Ck := ⟨n__law_tide_hour, bl, im⟩
theorem s__law_tide_hour : FnScope n__law_tide_hour ["draws", "few"] (defScope (top 18)) := ⟨rfl, rfl, rfl, by decide +kernel, rfl, by decide +kernel, by decide +kernel⟩
theorem k__law_tide_hour (sp__law_take : Sp3) (sp__law_pick : Sp3) : chkSs c__law_tide_hour (defScope (top 18)) (b__law_tide_hour sp__law_take sp__law_pick) (defBody (top 18)) = true := by kernel_rfl
/-! _law_tide_wheels -/
def c__law_tide_wheels : Ck := ⟨n__law_tide_wheels, bl, im⟩
theorem s__law_tide_wheels : FnScope n__law_tide_wheels ["draws", "p", "q"] (defScope (top 19)) := ⟨rfl, rfl, rfl, by decide +kernel, rfl, by decide +kernel, by decide +kernel⟩
theorem k__law_tide_wheels (sp__law_tide_number : Sp3) : chkSs c__law_tide_wheels (defScope (top 19)) (b__law_tide_wheels sp__law_tide_number) (defBody (top 19)) = true := by kernel_rfl
/-! _law_tide_height -/
def c__law_tide_height : Ck := ⟨n__law_tide_height, bl, im⟩
theorem s__law_tide_height : FnScope n__law_tide_height ["wheels", "hour"] (defScope (top 20)) := ⟨rfl, rfl, rfl, by decide +kernel, rfl, by decide +kernel, by decide +kernel⟩
theorem k__law_tide_height : chkSs c__law_tide_height (defScope (top 20)) (b__law_tide_height) (defBody (top 20)) = true := by kernel_rfl
/-! _law_tide_marks -/
def n__law_tide_marks : List Str := ["draws", "wheels", "many", "few", "told", "k", "hour"]
def c__law_tide_marks : Ck := ⟨n__law_tide_marks, bl, im⟩
theorem s__law_tide_marks : FnScope n__law_tide_marks ["draws", "wheels", "many", "few"] (defScope (top 21)) := ⟨rfl, rfl, rfl, by decide +kernel, rfl, by decide +kernel, by decide +kernel⟩
def r1__law_tide_marks (sp__law_take : Sp3) (sp__law_tide_height : Sp3) (sp__law_tide_hour : Sp3) : SL := (.cons (.ex (.me .append (.v 4) (.cons (.tup (.cons (.v 6) (.cons (.call "_law_tide_height"
  sp__law_tide_height (.cons (.v 1) (.cons (.v 6) .nil))) .nil))) .nil))) .nil)
def r2__law_tide_marks (sp__law_take : Sp3) (sp__law_tide_height : Sp3) (sp__law_tide_hour : Sp3) : SL := (.cons (.ret (.bi .tuple (.cons (.v 4) .nil))) .nil)
def b__law_tide_marks (sp__law_take : Sp3) (sp__law_tide_height : Sp3) (sp__law_tide_hour : Sp3) : SL := (.cons (.set (.nm 4) (.lst .nil)) (.cons (.for_ (.nm 5) (.rng1 (.call "_law_take" sp__law_take
  (.cons (.v 0) (.cons (.bin .add (.v 2) (.c (.int 1))) .nil)))) (.cons (.set (.nm 6) (.call "_law_tide_hour" sp__law_tide_hour (.cons (.v 0) (.cons (.v 3) .nil)))) (.cons (.ite (.and (.cons (.cmp .gt
  (.v 5) (.c (.int 0))) (.cons (.cmp .eq (.call "_law_take" sp__law_take (.cons (.v 0) (.cons (.c (.int 7)) .nil))) (.c (.int 0))) .nil))) (.cons (.set (.nm 6) (.ix (.ix (.v 4) (.call "_law_take"
  sp__law_take (.cons (.v 0) (.cons (.v 5) .nil)))) (.c (.int 0)))) .nil) .nil) (r1__law_tide_marks sp__law_take sp__law_tide_height sp__law_tide_hour)))) (r2__law_tide_marks sp__law_take
  sp__law_tide_height sp__law_tide_hour)))
theorem k__law_tide_marks (sp__law_take : Sp3) (sp__law_tide_height : Sp3) (sp__law_tide_hour : Sp3) : chkSs c__law_tide_marks (defScope (top 21)) (b__law_tide_marks sp__law_take sp__law_tide_height sp__law_tide_hour) (defBody (top 21)) = true := by kernel_rfl
/-! _law_tide_round -/
def c__law_tide_round : Ck := ⟨n__law_tide_round, bl, im⟩
theorem s__law_tide_round : FnScope n__law_tide_round ["wheels"] (defScope (top 22)) := ⟨rfl, rfl, rfl, by decide +kernel, rfl, by decide +kernel, by decide +kernel⟩
theorem k__law_tide_round (sp__law_gcd : Sp3) (sp__law_tide_height : Sp3) : chkSs c__law_tide_round (defScope (top 22)) (b__law_tide_round sp__law_gcd sp__law_tide_height) (defBody (top 22)) = true := by kernel_rfl
/-! _law_pair_fits -/
def n__law_pair_fits : List Str := ["p", "q", "marks", "known", "root", "first", "turn", "many", "mark", "hour", "height", "one", "other"]
def c__law_pair_fits : Ck := ⟨n__law_pair_fits, bl, im⟩
theorem s__law_pair_fits : FnScope n__law_pair_fits ["p", "q", "marks"] (defScope (top 23)) := ⟨rfl, rfl, rfl, by decide +kernel, rfl, by decide +kernel, by decide +kernel⟩
def r1__law_pair_fits : SL := (.cons (.ite (.and (.cons (.cmp .inn (.v 12) (.v 3)) (.cons (.cmp .nin (.v 11) (.v 3)) .nil))) (.cons (.setSub (.v 3) (.v 11) (.bin .sub (.v 10) (.ix (.v 3) (.v 12))))
  .nil) .nil) .nil)
def r2__law_pair_fits : SL := (.cons (.ite (.cmp .eq (.v 7) (.bi .len (.cons (.v 3) .nil))) (.cons .brk .nil) .nil) .nil)
def r3__law_pair_fits : SL := (.cons (.ret (.cmp .nin (.c (.bl false)) (.lc [("mark", 8)] (.nm 8) (.seq (.v 2)) .no (.cmp .eq (.bin .add (.ix (.v 3) (.bin .mod (.bi .int (.cons (.ix (.v 8) (.c (.int
  0))) .nil)) (.v 0))) (.ix (.v 3) (.bin .add (.v 0) (.bin .mod (.bi .int (.cons (.ix (.v 8) (.c (.int 0))) .nil)) (.v 1))))) (.ix (.v 8) (.c (.int 1))))))) .nil)
def b__law_pair_fits : SL := (.cons (.set (.nm 3) .dic0) (.cons (.for_ (.tup (.cons (.nm 4) (.cons (.nm 5) .nil))) (.seq (.v 2)) (.cons (.ite (.cmp .nin (.bin .mod (.bi .int (.cons (.v 4) .nil)) (.v
  0)) (.v 3)) (.cons (.setSub (.v 3) (.bin .mod (.bi .int (.cons (.v 4) .nil)) (.v 0)) (.c (.int 0))) (.cons (.for_ (.nm 6) (.rng1 (.bin .mul (.c (.int 2)) (.bi .len (.cons (.v 2) .nil)))) (.cons
  (.set (.nm 7) (.bi .len (.cons (.v 3) .nil))) (.cons (.for_ (.tup (.cons (.nm 9) (.cons (.nm 10) .nil))) (.seq (.v 2)) (.cons (.set (.nm 11) (.bin .mod (.bi .int (.cons (.v 9) .nil)) (.v 0))) (.cons
  (.set (.nm 12) (.bin .add (.v 0) (.bin .mod (.bi .int (.cons (.v 9) .nil)) (.v 1)))) (.cons (.ite (.and (.cons (.cmp .inn (.v 11) (.v 3)) (.cons (.cmp .nin (.v 12) (.v 3)) .nil))) (.cons (.setSub
  (.v 3) (.v 12) (.bin .sub (.v 10) (.ix (.v 3) (.v 11)))) .nil) .nil) (r1__law_pair_fits))))) (r2__law_pair_fits)))) .nil)) .nil) .nil)) (r3__law_pair_fits)))
theorem k__law_pair_fits : chkSs c__law_pair_fits (defScope (top 23)) (b__law_pair_fits) (defBody (top 23)) = true := by kernel_rfl
/-! _law_periods_are_right -/
def n__law_periods_are_right : List Str := ["marks", "most", "due", "p", "q"]
def c__law_periods_are_right : Ck := ⟨n__law_periods_are_right, bl, im⟩
theorem s__law_periods_are_right : FnScope n__law_periods_are_right ["marks", "most"] (defScope (top 24)) := ⟨rfl, rfl, rfl, by decide +kernel, rfl, by decide +kernel, by decide +kernel⟩
def r1__law_periods_are_right (sp__law_same : Sp3) (sp_fitting_periods : Sp3) (sp__law_pair_fits : Sp3) : SL := (.cons (.ret (.call "_law_same" sp__law_same (.cons (.call "fitting_periods"
  sp_fitting_periods (.cons (.v 0) (.cons (.v 1) .nil))) (.cons (.bi .tuple (.cons (.v 2) .nil)) .nil)))) .nil)
def b__law_periods_are_right (sp__law_same : Sp3) (sp_fitting_periods : Sp3) (sp__law_pair_fits : Sp3) : SL := (.cons (.set (.nm 2) (.lst .nil)) (.cons (.for_ (.nm 3) (.rng2 (.c (.int 1)) (.bin .add
  (.v 1) (.c (.int 1)))) (.cons (.set (.nm 2) (.bin .add (.v 2) (.lc [("q", 4)] (.nm 4) (.rng2 (.v 3) (.bin .add (.v 1) (.c (.int 1)))) (.ex (.call "_law_pair_fits" sp__law_pair_fits (.cons (.v 3)
  (.cons (.v 4) (.cons (.v 0) .nil))))) (.tup (.cons (.v 3) (.cons (.v 4) .nil)))))) .nil)) (r1__law_periods_are_right sp__law_same sp_fitting_periods sp__law_pair_fits)))
theorem k__law_periods_are_right (sp__law_same : Sp3) (sp_fitting_periods : Sp3) (sp__law_pair_fits : Sp3) : chkSs c__law_periods_are_right (defScope (top 24)) (b__law_periods_are_right sp__law_same sp_fitting_periods sp__law_pair_fits) (defBody (top 24)) = true := by kernel_rfl
/-! _law_clock_is_right -/
def n__law_clock_is_right : List Str := ["wheels", "marks", "hour", "many", "due", "k", "heights", "height", "mark"]
def c__law_clock_is_right : Ck := ⟨n__law_clock_is_right, bl, im⟩
theorem s__law_clock_is_right : FnScope n__law_clock_is_right ["wheels", "marks", "hour"] (defScope (top 25)) := ⟨rfl, rfl, rfl, by decide +kernel, rfl, by decide +kernel, by decide +kernel⟩
def r3__law_clock_is_right (sp__law_same : Sp3) (sp_clock_height : Sp3) (sp__law_tide_height : Sp3) (sp_fitting_offsets : Sp3) (sp__law_tide_round : Sp3) : SL := (.cons (.ret (.call "_law_same"
  sp__law_same (.cons (.call "clock_height" sp_clock_height (.cons (.v 0) (.cons (.v 1) (.cons (.v 2) .nil)))) (.cons (.v 7) .nil)))) .nil)
def r2__law_clock_is_right (sp__law_same : Sp3) (sp_clock_height : Sp3) (sp__law_tide_height : Sp3) (sp_fitting_offsets : Sp3) (sp__law_tide_round : Sp3) : SL := (.cons (.set (.nm 6) (.lc [("k", 5)]
  (.nm 5) (.seq (.v 4)) .no (.call "_law_tide_height" sp__law_tide_height (.cons (.v 0) (.cons (.bin .add (.v 2) (.v 5)) .nil))))) (.cons (.set (.nm 7) (.c .non)) (.cons (.ite (.and (.cons (.cmp .gt
  (.bi .len (.cons (.v 6) .nil)) (.c (.int 0))) (.cons (.cmp .eq (.bi .min1 (.cons (.v 6) .nil)) (.bi .max1 (.cons (.v 6) .nil))) .nil))) (.cons (.set (.nm 7) (.ix (.v 6) (.c (.int 0)))) .nil) .nil)
  (r3__law_clock_is_right sp__law_same sp_clock_height sp__law_tide_height sp_fitting_offsets sp__law_tide_round))))
def r1__law_clock_is_right (sp__law_same : Sp3) (sp_clock_height : Sp3) (sp__law_tide_height : Sp3) (sp_fitting_offsets : Sp3) (sp__law_tide_round : Sp3) : SL := (.cons (.ite (.not (.call "_law_same"
  sp__law_same (.cons (.call "fitting_offsets" sp_fitting_offsets (.cons (.v 0) (.cons (.v 1) .nil))) (.cons (.bi .tuple (.cons (.v 4) .nil)) .nil)))) (.cons (.ret (.c (.bl false))) .nil) .nil)
  (r2__law_clock_is_right sp__law_same sp_clock_height sp__law_tide_height sp_fitting_offsets sp__law_tide_round))
def b__law_clock_is_right (sp__law_same : Sp3) (sp_clock_height : Sp3) (sp__law_tide_height : Sp3) (sp_fitting_offsets : Sp3) (sp__law_tide_round : Sp3) : SL := (.cons (.set (.nm 3) (.bi .len (.cons
  (.call "_law_tide_round" sp__law_tide_round (.cons (.v 0) .nil)) .nil))) (.cons (.set (.nm 4) (.lst .nil)) (.cons (.for_ (.nm 5) (.rng1 (.v 3)) (.cons (.ite (.cmp .nin (.c (.bl false)) (.lc
  [("mark", 8)] (.nm 8) (.seq (.v 1)) .no (.cmp .eq (.call "_law_tide_height" sp__law_tide_height (.cons (.v 0) (.cons (.bin .add (.ix (.v 8) (.c (.int 0))) (.v 5)) .nil))) (.ix (.v 8) (.c (.int
  1)))))) (.cons (.ex (.me .append (.v 4) (.cons (.v 5) .nil))) .nil) .nil) .nil)) (r1__law_clock_is_right sp__law_same sp_clock_height sp__law_tide_height sp_fitting_offsets sp__law_tide_round))))
theorem k__law_clock_is_right (sp__law_same : Sp3) (sp_clock_height : Sp3) (sp__law_tide_height : Sp3) (sp_fitting_offsets : Sp3) (sp__law_tide_round : Sp3) : chkSs c__law_clock_is_right (defScope (top 25)) (b__law_clock_is_right sp__law_same sp_clock_height sp__law_tide_height sp_fitting_offsets sp__law_tide_round) (defBody (top 25)) = true := by kernel_rfl
/-! law -/
def n_law : List Str := ["script", "draws", "turn", "wheels", "marks", "drawn", "most", "p", "q", "scale", "first", "behind", "hours", "hour", "wrong", "k", "mark"]
def c_law : Ck := ⟨n_law, bl, im⟩
theorem s_law : FnScope n_law ["script"] (defScope (top 26)) := ⟨rfl, rfl, rfl, by decide +kernel, rfl, by decide +kernel, by decide +kernel⟩
def r3_law (sp__law_clock_is_right : Sp3) (sp__law_pick : Sp3) (sp__law_tide_hour : Sp3) (sp__law_tide_height : Sp3) (sp__law_take : Sp3) (sp__law_periods_are_right : Sp3) (sp__law_tide_marks : Sp3)
  (sp__law_tide_wheels : Sp3) (sp__law_draws : Sp3) : SL := (.cons (.set (.nm 14) (.tup (.cons (.v 13) (.cons (.call "_law_pick" sp__law_pick (.cons (.v 1) (.cons (.lst (.cons (.c (.int 0)) (.cons (.v
  9) (.cons (.bin .mul (.c (.int 2)) (.v 9)) (.cons (.bin .mul (.c (.int 3)) (.v 9)) .nil))))) .nil))) .nil)))) (.cons (.ite (.not (.call "_law_clock_is_right" sp__law_clock_is_right (.cons (.v 3)
  (.cons (.bin .add (.v 4) (.tup (.cons (.v 14) .nil))) (.cons (.bin .add (.v 13) (.c (.int 1))) .nil))))) (.cons (.ret (.c (.bl false))) .nil) .nil) .nil))
def r4_law (sp__law_clock_is_right : Sp3) (sp__law_pick : Sp3) (sp__law_tide_hour : Sp3) (sp__law_tide_height : Sp3) (sp__law_take : Sp3) (sp__law_periods_are_right : Sp3) (sp__law_tide_marks : Sp3)
  (sp__law_tide_wheels : Sp3) (sp__law_draws : Sp3) : SL := (.cons (.set (.nm 3) (.tup (.cons (.tup (.cons (.c (.int 0)) (.cons (.c (.int 4)) .nil))) (.cons (.tup (.cons (.c (.int 0)) (.cons (.c (.int
  0)) (.cons (.c (.int 1)) .nil)))) .nil)))) (.cons (.ret (.and (.cons (.call "_law_clock_is_right" sp__law_clock_is_right (.cons (.v 3) (.cons (.tup (.cons (.tup (.cons (.c (.int 0)) (.cons (.c (.int
  0)) .nil))) (.cons (.tup (.cons (.c (.int 1)) (.cons (.c (.int 4)) .nil))) .nil))) (.cons (.c (.int 2)) .nil)))) (.cons (.call "_law_clock_is_right" sp__law_clock_is_right (.cons (.v 3) (.cons (.tup
  (.cons (.tup (.cons (.c (.int 0)) (.cons (.c (.int 4)) .nil))) .nil)) (.cons (.bin .pow (.c (.int 10)) (.c (.int 30))) .nil)))) .nil)))) .nil))
def r2_law (sp__law_clock_is_right : Sp3) (sp__law_pick : Sp3) (sp__law_tide_hour : Sp3) (sp__law_tide_height : Sp3) (sp__law_take : Sp3) (sp__law_periods_are_right : Sp3) (sp__law_tide_marks : Sp3)
  (sp__law_tide_wheels : Sp3) (sp__law_draws : Sp3) : SL := (.cons (.for_ (.nm 2) (.rng1 (.c (.int 3))) (.cons (.set (.nm 7) (.bin .add (.c (.int 1)) (.call "_law_take" sp__law_take (.cons (.v 1)
  (.cons (.c (.int 6)) .nil))))) (.cons (.set (.nm 8) (.bin .add (.c (.int 1)) (.call "_law_take" sp__law_take (.cons (.v 1) (.cons (.c (.int 6)) .nil))))) (.cons (.set (.nm 9) (.call "_law_pick"
  sp__law_pick (.cons (.v 1) (.cons (.lst (.cons (.c (.int 1)) (.cons (.c (.int 1)) (.cons (.bin .pow (.c (.int 10)) (.c (.int 30))) .nil)))) .nil)))) (.cons (.set (.nm 10) (.bi .tuple (.cons (.lc
  [("k", 15)] (.nm 15) (.rng1 (.v 7)) .no (.bin .mul (.v 9) (.call "_law_take" sp__law_take (.cons (.v 1) (.cons (.c (.int 2)) .nil))))) .nil))) (.cons (.set (.nm 3) (.tup (.cons (.v 10) (.cons (.bi
  .tuple (.cons (.lc [("k", 15)] (.nm 15) (.rng1 (.v 8)) .no (.bin .mul (.v 9) (.call "_law_take" sp__law_take (.cons (.v 1) (.cons (.c (.int 2)) .nil))))) .nil)) .nil)))) (.cons (.set (.nm 11) (.call
  "_law_take" sp__law_take (.cons (.v 1) (.cons (.bin .mul (.v 7) (.v 8)) .nil)))) (.cons (.set (.nm 12) (.lc [("k", 15)] (.nm 15) (.rng1 (.call "_law_take" sp__law_take (.cons (.v 1) (.cons (.c (.int
  6)) .nil)))) .no (.call "_law_tide_hour" sp__law_tide_hour (.cons (.v 1) (.cons (.c (.int 20)) .nil))))) (.cons (.set (.nm 4) (.bi .tuple (.cons (.lc [("hour", 13)] (.nm 13) (.seq (.v 12)) .no (.tup
  (.cons (.v 13) (.cons (.call "_law_tide_height" sp__law_tide_height (.cons (.v 3) (.cons (.bin .add (.v 13) (.v 11)) .nil))) .nil)))) .nil))) (.cons (.set (.nm 13) (.call "_law_tide_hour"
  sp__law_tide_hour (.cons (.v 1) (.cons (.c (.int 20)) .nil)))) (.cons (.ite (.not (.call "_law_clock_is_right" sp__law_clock_is_right (.cons (.v 3) (.cons (.v 4) (.cons (.v 13) .nil))))) (.cons
  (.ret (.c (.bl false))) .nil) .nil) (r3_law sp__law_clock_is_right sp__law_pick sp__law_tide_hour sp__law_tide_height sp__law_take sp__law_periods_are_right sp__law_tide_marks sp__law_tide_wheels
  sp__law_draws)))))))))))) (r4_law sp__law_clock_is_right sp__law_pick sp__law_tide_hour sp__law_tide_height sp__law_take sp__law_periods_are_right sp__law_tide_marks sp__law_tide_wheels
  sp__law_draws))
def r1_law (sp__law_clock_is_right : Sp3) (sp__law_pick : Sp3) (sp__law_tide_hour : Sp3) (sp__law_tide_height : Sp3) (sp__law_take : Sp3) (sp__law_periods_are_right : Sp3) (sp__law_tide_marks : Sp3)
  (sp__law_tide_wheels : Sp3) (sp__law_draws : Sp3) : SL := (.cons (.ite (.and (.cons (.cmp .eq (.call "_law_take" sp__law_take (.cons (.v 1) (.cons (.c (.int 3)) .nil))) (.c (.int 0))) (.cons (.not
  (.call "_law_periods_are_right" sp__law_periods_are_right (.cons (.sl (.v 5) .no (.ex (.c (.int 3)))) (.cons (.c (.int 24)) .nil)))) .nil))) (.cons (.ret (.c (.bl false))) .nil) .nil) (r2_law
  sp__law_clock_is_right sp__law_pick sp__law_tide_hour sp__law_tide_height sp__law_take sp__law_periods_are_right sp__law_tide_marks sp__law_tide_wheels sp__law_draws))
def b_law (sp__law_clock_is_right : Sp3) (sp__law_pick : Sp3) (sp__law_tide_hour : Sp3) (sp__law_tide_height : Sp3) (sp__law_take : Sp3) (sp__law_periods_are_right : Sp3) (sp__law_tide_marks : Sp3)
  (sp__law_tide_wheels : Sp3) (sp__law_draws : Sp3) : SL := (.cons (.set (.nm 1) (.call "_law_draws" sp__law_draws (.cons (.v 0) (.cons (.c (.int 600)) .nil)))) (.cons (.for_ (.nm 2) (.rng1 (.c (.int
  2))) (.cons (.set (.nm 3) (.call "_law_tide_wheels" sp__law_tide_wheels (.cons (.v 1) (.cons (.bin .add (.c (.int 1)) (.call "_law_take" sp__law_take (.cons (.v 1) (.cons (.c (.int 6)) .nil))))
  (.cons (.bin .add (.c (.int 1)) (.call "_law_take" sp__law_take (.cons (.v 1) (.cons (.c (.int 6)) .nil)))) .nil))))) (.cons (.set (.nm 4) (.call "_law_tide_marks" sp__law_tide_marks (.cons (.v 1)
  (.cons (.v 3) (.cons (.c (.int 7)) (.cons (.call "_law_pick" sp__law_pick (.cons (.v 1) (.cons (.lst (.cons (.c (.int 8)) (.cons (.c (.int 30)) .nil))) .nil))) .nil)))))) (.cons (.set (.nm 5) (.bi
  .tuple (.cons (.lc [("mark", 16)] (.nm 16) (.seq (.v 4)) .no (.tup (.cons (.ix (.v 16) (.c (.int 0))) (.cons (.call "_law_take" sp__law_take (.cons (.v 1) (.cons (.c (.int 3)) .nil))) .nil))))
  .nil))) (.cons (.set (.nm 6) (.bin .add (.c (.int 1)) (.call "_law_take" sp__law_take (.cons (.v 1) (.cons (.c (.int 8)) .nil))))) (.cons (.ite (.or (.cons (.not (.call "_law_periods_are_right"
  sp__law_periods_are_right (.cons (.v 4) (.cons (.v 6) .nil)))) (.cons (.not (.call "_law_periods_are_right" sp__law_periods_are_right (.cons (.v 5) (.cons (.v 6) .nil)))) .nil))) (.cons (.ret (.c
  (.bl false))) .nil) .nil) .nil)))))) (r1_law sp__law_clock_is_right sp__law_pick sp__law_tide_hour sp__law_tide_height sp__law_take sp__law_periods_are_right sp__law_tide_marks sp__law_tide_wheels
  sp__law_draws)))
theorem k_law (sp__law_clock_is_right : Sp3) (sp__law_pick : Sp3) (sp__law_tide_hour : Sp3) (sp__law_tide_height : Sp3) (sp__law_take : Sp3) (sp__law_periods_are_right : Sp3) (sp__law_tide_marks : Sp3) (sp__law_tide_wheels : Sp3) (sp__law_draws : Sp3) : chkSs c_law (defScope (top 26)) (b_law sp__law_clock_is_right sp__law_pick sp__law_tide_hour sp__law_tide_height sp__law_take sp__law_periods_are_right sp__law_tide_marks sp__law_tide_wheels sp__law_draws) (defBody (top 26)) = true := by kernel_rfl
end K82
set_option Elab.async false
set_option linter.all false
set_option maxRecDepth 100000
set_option maxHeartbeats 4000000
namespace K82
open G3 L2 G3w
abbrev K3 := G3.K3
abbrev Addr := PySem.Addr
/-! ### dicts of ints -/
abbrev Key := L2.Key
def getI (e : List (Int × Int)) (k : Int) : Option Int := (e.find? fun p => decide (p.1 = k)).map (·.2)
def putI (e : List (Int × Int)) (k v : Int) : List (Int × Int) := if (e.any fun p => decide (p.1 = k)) = true then e.map (fun p => if p.1 = k then (p.1, v) else p) else e ++ [(k, v)]
def encD (e : List (Int × Int)) : List (Key × D) := e.map fun p => (.inl p.1, .int p.2)
theorem getK_enc {k : Int} : ∀ e : List (Int × Int), getK (encD e) (.inl k) = (getI e k).map .int
  | [] => rfl
  | p :: e => by
    have ih := getK_enc (k := k) e
    unfold getK getI encD at ih ⊢
    rw [List.map_cons, List.find?_cons, List.find?_cons]
    by_cases h : p.1 = k
    · subst h; simp
    · have h' : ¬ (Sum.inl p.1 : Key) = .inl k := fun z => h (Sum.inl.inj z)
      simp only [decide_eq_false h, decide_eq_false h']
      exact ih
theorem any_enc {k : Int} : ∀ e : List (Int × Int), ((encD e).any fun kv => decide (kv.1 = .inl k)) = e.any fun p => decide (p.1 = k)
  | [] => rfl
  | p :: e => by
    have ih := any_enc (k := k) e
    unfold encD at ih ⊢
    rw [List.map_cons, List.any_cons, List.any_cons, ih]
    by_cases h : p.1 = k
    · subst h; simp
    · have h' : ¬ (Sum.inl p.1 : Key) = .inl k := fun z => h (Sum.inl.inj z)
      simp only [decide_eq_false h, decide_eq_false h']
theorem putD_enc {e : List (Int × Int)} {k v : Int} : putD (encD e) (.inl k) (.int v) = encD (putI e k v) := by
  unfold putD putI
  rw [any_enc]
  split
  · unfold encD
    rw [List.map_map, List.map_map]
    refine List.map_congr_left fun p _ => ?_
    simp only [Function.comp]
    by_cases h : p.1 = k
    · subst h; simp
    · have h' : ¬ (Sum.inl p.1 : Key) = .inl k := fun z => h (Sum.inl.inj z)
      rw [if_neg h, if_neg h']
  · unfold encD; rw [List.map_append]; rfl
theorem any_get {e : List (Int × Int)} {k : Int} : (e.any fun p => decide (p.1 = k)) = (getI e k).isSome := by
  unfold getI
  induction e with
  | nil => rfl
  | cons p e ih =>
    rw [List.any_cons, List.find?_cons]
    by_cases h : p.1 = k
    · simp [h]
    · simp [h] at ih ⊢; exact ih
theorem get_put {e : List (Int × Int)} {k v j : Int} : getI (putI e k v) j = if j = k then some v else getI e j := by
  unfold putI
  split
  · rename_i h
    rw [any_get] at h
    unfold getI at *
    induction e with
    | nil => cases h
    | cons p e ih =>
      rw [List.map_cons, List.find?_cons, List.find?_cons]
      rw [List.find?_cons] at h
      by_cases c : p.1 = k
      · rw [if_pos c]
        by_cases d : j = k
        · rw [if_pos d]; simp [c, d]
        · rw [if_neg d]
          have d' : ¬ p.1 = j := fun z => d (by rw [← z, c])
          simp only [decide_eq_false d']
          clear h ih
          induction e with
          | nil => rfl
          | cons p' e ih' =>
            rw [List.map_cons, List.find?_cons, List.find?_cons]
            by_cases c' : p'.1 = k
            · rw [if_pos c']
              have : ¬ p'.1 = j := fun z => d (by rw [← z, c'])
              simp only [decide_eq_false this]; exact ih'
            · rw [if_neg c']
              by_cases c'' : p'.1 = j
              · simp [c'']
              · simp only [decide_eq_false c'']; exact ih'
      · rw [if_neg c]
        simp only [decide_eq_false c] at h
        by_cases d : p.1 = j
        · have : ¬ j = k := fun z => c (by rw [d, z])
          simp [d, this]
        · simp only [decide_eq_false d]; exact ih h
  · rename_i h
    rw [any_get, Bool.not_eq_true, Option.isSome_eq_false_iff, Option.isNone_iff_eq_none] at h
    unfold getI at *
    rw [List.find?_append]
    by_cases d : j = k
    · subst d
      rw [if_pos rfl]
      rw [Option.map_eq_none_iff] at h
      rw [h]; simp
    · rw [if_neg d]
      have : ([(k, v)].find? fun p => decide (p.1 = j)) = none := by simp; exact fun z => d z.symm
      rw [this, Option.or_none]
theorem put_len {e : List (Int × Int)} {k v : Int} (h : getI e k = none) : (putI e k v).length = e.length + 1 := by
  unfold putI
  rw [any_get, h]
  simp
theorem enc_len {e : List (Int × Int)} : (encD e).length = e.length := by unfold encD; rw [List.length_map]
/-! ### marks -/
abbrev Mk := List (Int × Int)
def encM (mk : Mk) : D := .tup (mk.map fun m => .tup [.int m.1, .int m.2])
def fitB (w0 w1 : List Int) (mk : Mk) : Bool := mk.all fun m => decide (hgt w0 w1 m.1 = m.2)
def sp_do_wheels_fit : Sp3 := fun ds M Q => ∃ w0 w1 mk, ds = [whl w0 w1, encM mk] ∧ w0 ≠ [] ∧ w1 ≠ [] ∧ mk.length ≤ 1000 ∧ Q (.bl (fitB w0 w1 mk)) M
theorem t_do_wheels_fit : ∀ ds M Q, sp_do_wheels_fit ds M Q → G3.wpSs (b_do_wheels_fit sp_height_at) (rets Q) (st3 n_do_wheels_fit.length ds) M := by
  rintro ds M Q ⟨w0, w1, mk, rfl, h0, h1, hl, q⟩
  simp only [n_do_wheels_fit, b_do_wheels_fit, encM, G3.wpSs, G3.wpS, G3.wpE, G3.wpEL, G3.wpO, G3.wpTO, G3.wpT, G3.wpAnd, G3.wpOr, G3.wpAndT, G3.wpOrT, G3.wpI, G3.wpG, G3.wpGs, G3.wipe3, G3.st3, G3.bi3, G3.me3, G3.Me.ty, G3.rets, some3_some, some3_none, atI0, atI1, atI2, atI3, ix3_tup, ix3_cl, getR3_ref, len3_tup, len3_cl, G3.add_int, add_tup, G3.sub_int, G3.mul_int, fdiv_int, G3.mod_int, pow_int, shl_int, aadd_int, asub_int, G3.eq_int, G3.ne_int, G3.lt_int, G3.le_int, G3.gt_int, G3.ge_int, isN_, notN_, inn_, nin_, in3_tup, isNon_int, isNon_non, isNon_tup, isNon_ref, isB3_bl, isI_int, one_, two_, tru_bl, tru_int, tru_non, tru_tup, int3_int, int3_bl, seqAt_tup, listAt_cl, list3_tup, sl3_tup, sl3_cl, neg3_int, seqI_tup, seqI_cl, zip3_tup, chain_t, chain_f, Option.bind_some, List.map_cons, List.map_nil, List.length_cons, List.length_nil, List.length_map, List.length_replicate, List.length_append, List.replicate, List.cons_append, List.nil_append, List.append_nil, Nat.sub_self, List.getElem?_cons_zero, List.getElem?_cons_succ, List.set_cons_zero, List.set_cons_succ, Nat.reduceAdd, Nat.reduceSub, Nat.zero_add, Option.getD_some, Bool.not_true, Bool.not_false, if_true, if_false, ite_true, ite_false, Bool.false_eq_true, reduceIte, decide_eq_true_eq, true_and, and_true]
  refine lc_mp _ mk (fun m => .bl (decide (hgt w0 w1 m.1 = m.2))) (fun _ _ => trivial) (fun a ha M' sb Qe h => ?_) (by rw [sline]; omega) ?_
  · simp only [G3.wpSs, G3.wpS, G3.wpE, G3.wpEL, G3.wpO, G3.wpTO, G3.wpT, G3.wpAnd, G3.wpOr, G3.wpAndT, G3.wpOrT, G3.wpI, G3.wpG, G3.wpGs, G3.wipe3, G3.st3, G3.bi3, G3.me3, G3.Me.ty, G3.rets, some3_some, some3_none, atI0, atI1, atI2, atI3, ix3_tup, ix3_cl, getR3_ref, len3_tup, len3_cl, G3.add_int, add_tup, G3.sub_int, G3.mul_int, fdiv_int, G3.mod_int, pow_int, shl_int, aadd_int, asub_int, G3.eq_int, G3.ne_int, G3.lt_int, G3.le_int, G3.gt_int, G3.ge_int, isN_, notN_, inn_, nin_, in3_tup, isNon_int, isNon_non, isNon_tup, isNon_ref, isB3_bl, isI_int, one_, two_, tru_bl, tru_int, tru_non, tru_tup, int3_int, int3_bl, seqAt_tup, listAt_cl, list3_tup, sl3_tup, sl3_cl, neg3_int, seqI_tup, seqI_cl, zip3_tup, chain_t, chain_f, Option.bind_some, List.map_cons, List.map_nil, List.length_cons, List.length_nil, List.length_map, List.length_replicate, List.length_append, List.replicate, List.cons_append, List.nil_append, List.append_nil, Nat.sub_self, List.getElem?_cons_zero, List.getElem?_cons_succ, List.set_cons_zero, List.set_cons_succ, Nat.reduceAdd, Nat.reduceSub, Nat.zero_add, Option.getD_some, Bool.not_true, Bool.not_false, if_true, if_false, ite_true, ite_false, Bool.false_eq_true, reduceIte, decide_eq_true_eq, true_and, and_true]
    refine ⟨w0, w1, a.1, rfl, h0, h1, ?_⟩
    simp only [G3.wpSs, G3.wpS, G3.wpE, G3.wpEL, G3.wpO, G3.wpTO, G3.wpT, G3.wpAnd, G3.wpOr, G3.wpAndT, G3.wpOrT, G3.wpI, G3.wpG, G3.wpGs, G3.wipe3, G3.st3, G3.bi3, G3.me3, G3.Me.ty, G3.rets, some3_some, some3_none, atI0, atI1, atI2, atI3, ix3_tup, ix3_cl, getR3_ref, len3_tup, len3_cl, G3.add_int, add_tup, G3.sub_int, G3.mul_int, fdiv_int, G3.mod_int, pow_int, shl_int, aadd_int, asub_int, G3.eq_int, G3.ne_int, G3.lt_int, G3.le_int, G3.gt_int, G3.ge_int, isN_, notN_, inn_, nin_, in3_tup, isNon_int, isNon_non, isNon_tup, isNon_ref, isB3_bl, isI_int, one_, two_, tru_bl, tru_int, tru_non, tru_tup, int3_int, int3_bl, seqAt_tup, listAt_cl, list3_tup, sl3_tup, sl3_cl, neg3_int, seqI_tup, seqI_cl, zip3_tup, chain_t, chain_f, Option.bind_some, List.map_cons, List.map_nil, List.length_cons, List.length_nil, List.length_map, List.length_replicate, List.length_append, List.replicate, List.cons_append, List.nil_append, List.append_nil, Nat.sub_self, List.getElem?_cons_zero, List.getElem?_cons_succ, List.set_cons_zero, List.set_cons_succ, Nat.reduceAdd, Nat.reduceSub, Nat.zero_add, Option.getD_some, Bool.not_true, Bool.not_false, if_true, if_false, ite_true, ite_false, Bool.false_eq_true, reduceIte, decide_eq_true_eq, true_and, and_true]
    exact h _ .refl
  · intro p hp
    rw [show (mk.map fun m => D.bl (decide (hgt w0 w1 m.1 = m.2))) = (mk.map fun m => decide (hgt w0 w1 m.1 = m.2)).map .bl by rw [List.map_map]; rfl]
    simp only [listAt_ref put_same, bls_map, G3.wpSs, G3.wpS, G3.wpE, G3.wpEL, G3.wpO, G3.wpTO, G3.wpT, G3.wpAnd, G3.wpOr, G3.wpAndT, G3.wpOrT, G3.wpI, G3.wpG, G3.wpGs, G3.wipe3, G3.st3, G3.bi3, G3.me3, G3.Me.ty, G3.rets, some3_some, some3_none, atI0, atI1, atI2, atI3, ix3_tup, ix3_cl, getR3_ref, len3_tup, len3_cl, G3.add_int, add_tup, G3.sub_int, G3.mul_int, fdiv_int, G3.mod_int, pow_int, shl_int, aadd_int, asub_int, G3.eq_int, G3.ne_int, G3.lt_int, G3.le_int, G3.gt_int, G3.ge_int, isN_, notN_, inn_, nin_, in3_tup, isNon_int, isNon_non, isNon_tup, isNon_ref, isB3_bl, isI_int, one_, two_, tru_bl, tru_int, tru_non, tru_tup, int3_int, int3_bl, seqAt_tup, listAt_cl, list3_tup, sl3_tup, sl3_cl, neg3_int, seqI_tup, seqI_cl, zip3_tup, chain_t, chain_f, Option.bind_some, List.map_cons, List.map_nil, List.length_cons, List.length_nil, List.length_map, List.length_replicate, List.length_append, List.replicate, List.cons_append, List.nil_append, List.append_nil, Nat.sub_self, List.getElem?_cons_zero, List.getElem?_cons_succ, List.set_cons_zero, List.set_cons_succ, Nat.reduceAdd, Nat.reduceSub, Nat.zero_add, Option.getD_some, Bool.not_true, Bool.not_false, if_true, if_false, ite_true, ite_false, Bool.false_eq_true, reduceIte, decide_eq_true_eq, true_and, and_true]
    refine wk_new hp ?_
    have : ((mk.map fun m => decide (hgt w0 w1 m.1 = m.2)).all id) = fitB w0 w1 mk := by unfold fitB; rw [List.all_map]; rfl
    rw [this]; exact q
end K82
set_option Elab.async false
set_option linter.all false
set_option maxRecDepth 100000
set_option maxHeartbeats 4000000
namespace K82
open G3 L2 G3w
structure Join (p q : Nat) (hs L : List Int) : Prop where
  len : L.length = p + q
  lab : ∀ x : Int, 0 ≤ x → x < (p : Int) + q → 0 ≤ getZ L x ∧ getZ L x < (p : Int) + q ∧ getZ L (getZ L x) = getZ L x
  eq : ∀ h ∈ hs, getZ L (h % p) = getZ L (p + h % q)
  con : ∀ S : Int → Prop, (∀ h ∈ hs, S (h % p) ↔ S (p + h % q)) → ∀ x : Int, 0 ≤ x → x < (p : Int) + q → (S x ↔ S (getZ L x))
theorem getZ_map {L : List Int} {f : Int → Int} {x : Int} (h0 : 0 ≤ x) (h1 : x < L.length) : getZ (L.map f) x = f (getZ L x) := by
  unfold getZ
  rw [List.getD_eq_getElem?_getD, List.getD_eq_getElem?_getD, List.getElem?_map, List.getElem?_eq_getElem (by omega)]
  rfl
theorem rA {p q : Nat} (hp : 0 < p) (h : Int) : 0 ≤ h % p ∧ h % p < (p : Int) + q := by
  have := Int.emod_nonneg h (show (p : Int) ≠ 0 by omega)
  have := Int.emod_lt_of_pos h (show (0 : Int) < p by omega)
  omega
theorem rB {p q : Nat} (hq : 0 < q) (h : Int) : 0 ≤ (p : Int) + h % q ∧ (p : Int) + h % q < (p : Int) + q := by
  have := Int.emod_nonneg h (show (q : Int) ≠ 0 by omega)
  have := Int.emod_lt_of_pos h (show (0 : Int) < q by omega)
  omega
theorem Join.zero {p q : Nat} : Join p q [] ((List.range (p + q)).map fun k : Nat => (k : Int)) := by
  have g : ∀ x : Int, 0 ≤ x → x < (p : Int) + q → getZ ((List.range (p + q)).map fun k : Nat => (k : Int)) x = x := by
    intro x h0 h1
    unfold getZ
    rw [List.getD_eq_getElem?_getD, List.getElem?_map, List.getElem?_range (by omega)]
    simp; omega
  refine ⟨by simp, fun x h0 h1 => ?_, fun h hh => by simp at hh, fun S hS x h0 h1 => ?_⟩
  · rw [g x h0 h1, g x h0 h1]; exact ⟨h0, h1, rfl⟩
  · rw [g x h0 h1]
def jf (one other l : Int) : Int := if one = l ∨ other = l then min one other else l
theorem Join.step {p q : Nat} (hp : 0 < p) (hq : 0 < q) {hs L : List Int} {h : Int} (j : Join p q hs L) : Join p q (hs ++ [h]) (L.map (jf (getZ L (h % p)) (getZ L (p + h % q)))) := by
  obtain ⟨a0, a1⟩ := rA (q := q) hp h
  obtain ⟨b0, b1⟩ := rB (p := p) hq h
  obtain ⟨la0, la1, la2⟩ := j.lab _ a0 a1
  obtain ⟨lb0, lb1, lb2⟩ := j.lab _ b0 b1
  have len := j.len
  generalize ho : getZ L (h % p) = one at *
  generalize ht : getZ L (p + h % q) = other at *
  have gm : ∀ x : Int, 0 ≤ x → x < (p : Int) + q → getZ (L.map (jf one other)) x = jf one other (getZ L x) := fun x h0 h1 => getZ_map h0 (by omega)
  have fix : ∀ x : Int, 0 ≤ x → x < (p : Int) + q → jf one other (getZ L x) = min one other ∧ (one = getZ L x ∨ other = getZ L x) ∨ jf one other (getZ L x) = getZ L x ∧ ¬ (one = getZ L x ∨ other = getZ L x) := by
    intro x _ _
    unfold jf
    by_cases c : one = getZ L x ∨ other = getZ L x
    · exact .inl ⟨if_pos c, c⟩
    · exact .inr ⟨if_neg c, c⟩
  have lowL : getZ L (min one other) = min one other := by
    rcases Int.le_total one other with c | c
    · rw [Int.min_eq_left c]; exact la2
    · rw [Int.min_eq_right c]; exact lb2
  have lowf : jf one other (min one other) = min one other := by
    unfold jf
    split
    · rfl
    · rfl
  refine ⟨by rw [List.length_map]; exact len, fun x h0 h1 => ?_, fun h' hh => ?_, fun S hS x h0 h1 => ?_⟩
  · obtain ⟨l0, l1, l2⟩ := j.lab x h0 h1
    rw [gm x h0 h1]
    rcases fix x h0 h1 with ⟨e, _⟩ | ⟨e, n⟩
    · rw [e]
      refine ⟨by omega, by omega, ?_⟩
      rw [gm _ (by omega) (by omega), lowL, lowf]
    · rw [e]
      refine ⟨l0, l1, ?_⟩
      rw [gm _ l0 l1, l2, e]
  · rcases List.mem_append.mp hh with hh | hh
    · obtain ⟨a0', a1'⟩ := rA (q := q) hp h'
      obtain ⟨b0', b1'⟩ := rB (p := p) hq h'
      rw [gm _ a0' a1', gm _ b0' b1', j.eq h' hh]
    · rw [List.mem_singleton] at hh
      subst hh
      rw [gm _ a0 a1, gm _ b0 b1, ho, ht]
      unfold jf
      rw [if_pos (.inl rfl), if_pos (.inr rfl)]
  · rw [gm x h0 h1]
    have hS' : ∀ h ∈ hs, S (h % p) ↔ S (p + h % q) := fun h hh => hS h (List.mem_append_left _ hh)
    have c1 := j.con S hS' _ a0 a1
    have c2 := j.con S hS' _ b0 b1
    have c3 := hS h (List.mem_append_right _ (List.mem_singleton.mpr rfl))
    have c4 := j.con S hS' x h0 h1
    rw [ho] at c1
    rw [ht] at c2
    have c5 : S one ↔ S other := c1.symm.trans (c3.trans c2)
    have c6 : S (min one other) ↔ S one := by
      rcases Int.le_total one other with c | c
      · rw [Int.min_eq_left c]
      · rw [Int.min_eq_right c]; exact c5.symm
    rcases fix x h0 h1 with ⟨e, c | c⟩ | ⟨e, n⟩
    · rw [e, c4, c6, c]
    · rw [e, c4, c6, c5, c]
    · rw [e]; exact c4
def sp_joined_rests : Sp3 := fun ds M Q => ∃ (p q : Nat) (r : Addr) (hs : List Int), ds = [.int p, .int q, .ref r] ∧ M r = some (.lst (hs.map .int)) ∧ 0 < p ∧ 0 < q ∧ p ≤ 100 ∧ q ≤ 100 ∧ ∀ L, Join p q hs L → newL (L.map .int) M Q
theorem inF2 {l one other : Int} : inF (.int l) [.int one, .int other] = decide (one = l ∨ other = l) := by
  unfold inF
  simp only [List.any_cons, List.any_nil, eqF, Bool.or_false]
  by_cases c : one = l <;> by_cases d : other = l <;> simp [c, d]
theorem t_joined_rests : ∀ ds M Q, sp_joined_rests ds M Q → G3.wpSs b_joined_rests (rets Q) (st3 n_joined_rests.length ds) M := by
  rintro ds M Q ⟨p, q, r, hs, rfl, er, hp, hq, p1, q1, k⟩
  simp only [n_joined_rests, r1_joined_rests, b_joined_rests, G3.wpSs, G3.wpS, G3.wpE, G3.wpEL, G3.wpO, G3.wpTO, G3.wpT, G3.wpAnd, G3.wpOr, G3.wpAndT, G3.wpOrT, G3.wpI, G3.wpG, G3.wpGs, G3.wipe3, G3.st3, G3.bi3, G3.me3, G3.Me.ty, G3.rets, some3_some, some3_none, atI0, atI1, atI2, atI3, ix3_tup, ix3_cl, getR3_ref, len3_tup, len3_cl, G3.add_int, add_tup, G3.sub_int, G3.mul_int, fdiv_int, G3.mod_int, pow_int, shl_int, aadd_int, asub_int, G3.eq_int, G3.ne_int, G3.lt_int, G3.le_int, G3.gt_int, G3.ge_int, isN_, notN_, inn_, nin_, in3_tup, isNon_int, isNon_non, isNon_tup, isNon_ref, isB3_bl, isI_int, one_, two_, tru_bl, tru_int, tru_non, tru_tup, int3_int, int3_bl, seqAt_tup, listAt_cl, list3_tup, sl3_tup, sl3_cl, neg3_int, seqI_tup, seqI_cl, zip3_tup, chain_t, chain_f, Option.bind_some, List.map_cons, List.map_nil, List.length_cons, List.length_nil, List.length_map, List.length_replicate, List.length_append, List.replicate, List.cons_append, List.nil_append, List.append_nil, Nat.sub_self, List.getElem?_cons_zero, List.getElem?_cons_succ, List.set_cons_zero, List.set_cons_succ, Nat.reduceAdd, Nat.reduceSub, Nat.zero_add, Option.getD_some, Bool.not_true, Bool.not_false, if_true, if_false, ite_true, ite_false, Bool.false_eq_true, reduceIte, decide_eq_true_eq, true_and, and_true]
  refine ⟨by omega, by omega, fun a0 ha0 => ?_⟩
  have er1 := put_keep (o' := .lst (rgD 0 1 ((p : Int) + q).toNat)) er ha0
  simp only []
  rw [seqI_ref er1]
  refine ⟨fun i τ M' => ∃ a L y4 y5 y6 y7 y8, τ = [some (.int p), some (.int q), some (.ref r), some (.ref a), y4, y5, y6, y7, y8] ∧ M' a = some (.lst (L.map .int)) ∧ Join p q (hs.take i) L ∧ Sub M M' ∧ M a = none, ⟨a0, (List.range (p + q)).map fun k : Nat => (k : Int), _, _, _, _, _, rfl, ?_, Join.zero, Sub.new ha0, ha0⟩, ?_⟩
  · rw [put_same, show ((p : Int) + q).toNat = p + q by omega, List.map_map]
    unfold rgD
    congr 2
    refine List.map_congr_left fun k _ => ?_
    simp
  rintro i τ M' ⟨a, L, y4, y5, y6, y7, y8, rfl, ea, j, sb, fa⟩ hi
  refine ⟨sb _ _ er, fun d hd => ?_, fun ei => ?_⟩
  · rw [List.getElem?_map] at hd
    rw [List.length_map] at hi
    cases hz : hs[i]? with
    | none => rw [hz] at hd; cases hd
    | some h =>
      rw [hz] at hd
      cases hd
      obtain ⟨a0, a1⟩ := rA (q := q) hp h
      obtain ⟨b0, b1⟩ := rB (p := p) hq h
      have len := j.len
      simp only [G3.wpSs, G3.wpS, G3.wpE, G3.wpEL, G3.wpO, G3.wpTO, G3.wpT, G3.wpAnd, G3.wpOr, G3.wpAndT, G3.wpOrT, G3.wpI, G3.wpG, G3.wpGs, G3.wipe3, G3.st3, G3.bi3, G3.me3, G3.Me.ty, G3.rets, some3_some, some3_none, atI0, atI1, atI2, atI3, ix3_tup, ix3_cl, getR3_ref, len3_tup, len3_cl, G3.add_int, add_tup, G3.sub_int, G3.mul_int, fdiv_int, G3.mod_int, pow_int, shl_int, aadd_int, asub_int, G3.eq_int, G3.ne_int, G3.lt_int, G3.le_int, G3.gt_int, G3.ge_int, isN_, notN_, inn_, nin_, in3_tup, isNon_int, isNon_non, isNon_tup, isNon_ref, isB3_bl, isI_int, one_, two_, tru_bl, tru_int, tru_non, tru_tup, int3_int, int3_bl, seqAt_tup, listAt_cl, list3_tup, sl3_tup, sl3_cl, neg3_int, seqI_tup, seqI_cl, zip3_tup, chain_t, chain_f, Option.bind_some, List.map_cons, List.map_nil, List.length_cons, List.length_nil, List.length_map, List.length_replicate, List.length_append, List.replicate, List.cons_append, List.nil_append, List.append_nil, Nat.sub_self, List.getElem?_cons_zero, List.getElem?_cons_succ, List.set_cons_zero, List.set_cons_succ, Nat.reduceAdd, Nat.reduceSub, Nat.zero_add, Option.getD_some, Bool.not_true, Bool.not_false, if_true, if_false, ite_true, ite_false, Bool.false_eq_true, reduceIte, decide_eq_true_eq, true_and, and_true]
      refine ⟨by omega, ?_⟩
      rw [ix3_intsL ea a0 (by omega)]
      simp only [G3.wpSs, G3.wpS, G3.wpE, G3.wpEL, G3.wpO, G3.wpTO, G3.wpT, G3.wpAnd, G3.wpOr, G3.wpAndT, G3.wpOrT, G3.wpI, G3.wpG, G3.wpGs, G3.wipe3, G3.st3, G3.bi3, G3.me3, G3.Me.ty, G3.rets, some3_some, some3_none, atI0, atI1, atI2, atI3, ix3_tup, ix3_cl, getR3_ref, len3_tup, len3_cl, G3.add_int, add_tup, G3.sub_int, G3.mul_int, fdiv_int, G3.mod_int, pow_int, shl_int, aadd_int, asub_int, G3.eq_int, G3.ne_int, G3.lt_int, G3.le_int, G3.gt_int, G3.ge_int, isN_, notN_, inn_, nin_, in3_tup, isNon_int, isNon_non, isNon_tup, isNon_ref, isB3_bl, isI_int, one_, two_, tru_bl, tru_int, tru_non, tru_tup, int3_int, int3_bl, seqAt_tup, listAt_cl, list3_tup, sl3_tup, sl3_cl, neg3_int, seqI_tup, seqI_cl, zip3_tup, chain_t, chain_f, Option.bind_some, List.map_cons, List.map_nil, List.length_cons, List.length_nil, List.length_map, List.length_replicate, List.length_append, List.replicate, List.cons_append, List.nil_append, List.append_nil, Nat.sub_self, List.getElem?_cons_zero, List.getElem?_cons_succ, List.set_cons_zero, List.set_cons_succ, Nat.reduceAdd, Nat.reduceSub, Nat.zero_add, Option.getD_some, Bool.not_true, Bool.not_false, if_true, if_false, ite_true, ite_false, Bool.false_eq_true, reduceIte, decide_eq_true_eq, true_and, and_true]
      refine ⟨by omega, ?_⟩
      rw [ix3_intsL ea b0 (by omega)]
      simp only [seqI_ref ea, G3.wpSs, G3.wpS, G3.wpE, G3.wpEL, G3.wpO, G3.wpTO, G3.wpT, G3.wpAnd, G3.wpOr, G3.wpAndT, G3.wpOrT, G3.wpI, G3.wpG, G3.wpGs, G3.wipe3, G3.st3, G3.bi3, G3.me3, G3.Me.ty, G3.rets, some3_some, some3_none, atI0, atI1, atI2, atI3, ix3_tup, ix3_cl, getR3_ref, len3_tup, len3_cl, G3.add_int, add_tup, G3.sub_int, G3.mul_int, fdiv_int, G3.mod_int, pow_int, shl_int, aadd_int, asub_int, G3.eq_int, G3.ne_int, G3.lt_int, G3.le_int, G3.gt_int, G3.ge_int, isN_, notN_, inn_, nin_, in3_tup, isNon_int, isNon_non, isNon_tup, isNon_ref, isB3_bl, isI_int, one_, two_, tru_bl, tru_int, tru_non, tru_tup, int3_int, int3_bl, seqAt_tup, listAt_cl, list3_tup, sl3_tup, sl3_cl, neg3_int, seqI_tup, seqI_cl, zip3_tup, chain_t, chain_f, Option.bind_some, List.map_cons, List.map_nil, List.length_cons, List.length_nil, List.length_map, List.length_replicate, List.length_append, List.replicate, List.cons_append, List.nil_append, List.append_nil, Nat.sub_self, List.getElem?_cons_zero, List.getElem?_cons_succ, List.set_cons_zero, List.set_cons_succ, Nat.reduceAdd, Nat.reduceSub, Nat.zero_add, Option.getD_some, Bool.not_true, Bool.not_false, if_true, if_false, ite_true, ite_false, Bool.false_eq_true, reduceIte, decide_eq_true_eq, true_and, and_true]
      refine lc_mp D.int L (fun l => .int (jf (getZ L (h % p)) (getZ L (p + h % q)) l)) (fun M' sb => sb _ _ ea) (fun l hl M2 sb2 Qe hq => ?_) (by rw [sline]; omega) ?_
      · simp only [inn_, in3_tup, inF2, id, G3.wpSs, G3.wpS, G3.wpE, G3.wpEL, G3.wpO, G3.wpTO, G3.wpT, G3.wpAnd, G3.wpOr, G3.wpAndT, G3.wpOrT, G3.wpI, G3.wpG, G3.wpGs, G3.wipe3, G3.st3, G3.bi3, G3.me3, G3.Me.ty, G3.rets, some3_some, some3_none, atI0, atI1, atI2, atI3, ix3_tup, ix3_cl, getR3_ref, len3_tup, len3_cl, G3.add_int, add_tup, G3.sub_int, G3.mul_int, fdiv_int, G3.mod_int, pow_int, shl_int, aadd_int, asub_int, G3.eq_int, G3.ne_int, G3.lt_int, G3.le_int, G3.gt_int, G3.ge_int, isN_, notN_, inn_, nin_, in3_tup, isNon_int, isNon_non, isNon_tup, isNon_ref, isB3_bl, isI_int, one_, two_, tru_bl, tru_int, tru_non, tru_tup, int3_int, int3_bl, seqAt_tup, listAt_cl, list3_tup, sl3_tup, sl3_cl, neg3_int, seqI_tup, seqI_cl, zip3_tup, chain_t, chain_f, Option.bind_some, List.map_cons, List.map_nil, List.length_cons, List.length_nil, List.length_map, List.length_replicate, List.length_append, List.replicate, List.cons_append, List.nil_append, List.append_nil, Nat.sub_self, List.getElem?_cons_zero, List.getElem?_cons_succ, List.set_cons_zero, List.set_cons_succ, Nat.reduceAdd, Nat.reduceSub, Nat.zero_add, Option.getD_some, Bool.not_true, Bool.not_false, if_true, if_false, ite_true, ite_false, Bool.false_eq_true, reduceIte, decide_eq_true_eq, true_and, and_true]
        refine ⟨rfl, rfl, ?_⟩
        have hq := hq M2 .refl
        unfold jf at hq
        split
        · rename_i c; rw [if_pos c] at hq; exact hq
        · rename_i c; rw [if_neg c] at hq; exact hq
      · rw [show (L.map fun l => D.int (jf (getZ L (h % p)) (getZ L (p + h % q)) l)) = (L.map (jf (getZ L (h % p)) (getZ L (p + h % q)))).map .int by rw [List.map_map]; rfl]
        intro a' ha'
        have fa' : M a' = none := by
          cases z : M a' with
          | none => rfl
          | some o => rw [sb _ _ z] at ha'; cases ha'
        refine wk.of ⟨a', _, _, _, _, _, _, rfl, put_same, ?_, sb.put_free fa', fa'⟩
        rw [List.take_add_one, hz]
        exact j.step hp hq
  · rw [List.length_map] at ei
    subst ei
    rw [List.take_length] at j
    refine wk.of (wk_sub ?_ (k L j a fa))
    have := sb.put a (.lst (L.map .int))
    rwa [put_self ea] at this
end K82
set_option Elab.async false
set_option linter.all false
set_option maxRecDepth 100000
set_option maxHeartbeats 4000000
namespace K82
open G3 L2 G3w
/-- {k: v for ..}, keys and values ints -/
theorem dc_int {α : Type} (g : α → D) (l : List α) (k v : α → Int) {keep : Mp → Prop} {tn : Tn} {vs : List Nat} {tk tv : TE3} {τ : S3} {M1 : Mp} {Q : K3}
    (hk : ∀ M, Sub M1 M → keep M)
    (hf : ∀ a, a ∈ l → ∀ M, Sub M1 M → ∀ R : D → D → Mp → Prop, (∀ M5, Sub M M5 → R (.int (k a)) (.int (v a)) M5) → wpG tn (g a) M (wipe3 τ vs) fun τ2 => tk τ2 M fun y M4 => tv τ2 M4 fun z M5 => R y z M5)
    (hl : l.length < PySem.sizeLine)
    (hQ : ∀ p, M1 p = none → Q (.ref p) (put M1 p (.dic (encD (l.foldl (fun e a => putI e (k a) (v a)) []))))) : dcW (l.map g) keep tn vs (fun _ M Q => Q true M) tk tv τ M1 Q := by
  intro p hp
  have lenF : ∀ (l : List α), (l.foldl (fun e a => putI e (k a) (v a)) []).length ≤ l.length := by
    have h : ∀ (l : List α) (e : List (Int × Int)), (l.foldl (fun e a => putI e (k a) (v a)) e).length ≤ e.length + l.length := by
      intro l
      induction l with
      | nil => intro e; simp
      | cons a l ih =>
        intro e
        rw [List.foldl_cons, List.length_cons]
        have h1 := ih (putI e (k a) (v a))
        have h2 : (putI e (k a) (v a)).length ≤ e.length + 1 := by
          cases c : getI e (k a) with
          | none => rw [put_len c]; exact Nat.le_refl _
          | some z =>
            unfold putI
            rw [any_get, c]
            simp
        omega
    intro l
    have := h l []
    simpa using this
  refine ⟨fun i acc M => acc = encD ((l.take i).foldl (fun e a => putI e (k a) (v a)) []) ∧ M = put M1 p (.dic acc), ⟨rfl, rfl⟩, ?_⟩
  rintro i acc M ⟨rfl, rfl⟩ hi
  rw [List.length_map] at hi ⊢
  refine ⟨hk _ (.new hp), put_same, fun d hd => ?_, fun ei => ?_⟩
  · rw [List.getElem?_map] at hd
    cases hz : l[i]? with
    | none => rw [hz] at hd; cases hd
    | some a =>
      rw [hz] at hd
      cases hd
      simp only [if_true]
      refine hf a (List.mem_of_getElem? hz) _ (.new hp) (fun y z M5 => some3 (keyD y) fun k' => _ ∧ _ ∧ wk _ _) fun M5 sb => ?_
      have hlen := lenF (l.take i)
      rw [List.length_take] at hlen
      refine ⟨?_, sb _ _ put_same, ?_⟩
      · rw [enc_len]; omega
      · rw [putD_enc]
        refine ⟨put M1 p _, ((Sub.new hp).trans sb).put p _, ?_, rfl⟩
        rw [List.take_add_one, hz, List.foldl_append]; rfl
  · subst ei
    rw [List.take_length]
    exact wk.of (hQ p hp)
/-! ### what is known of places -/
def Fits (p q : Nat) (mk : Mk) : Prop := ∃ W : Int → Int, ∀ m ∈ mk, W (m.1 % p) + W (p + m.1 % q) = m.2
def sv (p : Nat) (W : Int → Int) (x : Int) : Int := if x < p then W x else -W x
def Closed (p q : Nat) (mk : Mk) (e : List (Int × Int)) : Prop := ∀ m ∈ mk, (getI e (m.1 % p)).isSome = (getI e (p + m.1 % q)).isSome
def pl (p q : Nat) (mk : Mk) : List Int := mk.flatMap fun m => [m.1 % p, p + m.1 % q]
def cnt (p q : Nat) (mk : Mk) (e : List (Int × Int)) : Nat := (pl p q mk).countP fun x => !(getI e x).isSome
structure Kn (p q : Nat) (mk : Mk) (L : List Int) (e : List (Int × Int)) : Prop where
  root : ∀ x : Int, 0 ≤ x → x < (p : Int) + q → (getI e (getZ L x)).isSome = true
  val : ∀ W : Int → Int, (∀ m ∈ mk, W (m.1 % p) + W (p + m.1 % q) = m.2) → ∀ x v, 0 ≤ x → x < (p : Int) + q → getI e x = some v → (if x < p then v else -v) = sv p W x - sv p W (getZ L x)
  size : e.length + cnt p q mk e ≤ 10000
theorem cnt_lt {p q : Nat} {mk : Mk} {e : List (Int × Int)} {x v : Int} (hx : x ∈ pl p q mk) (hn : getI e x = none) : cnt p q mk (putI e x v) < cnt p q mk e := by
  unfold cnt
  have gen : ∀ l : List Int, (l.countP fun y => !(getI (putI e x v) y).isSome) ≤ l.countP fun y => !(getI e y).isSome := by
    intro l
    refine List.countP_mono_left fun y _ h => ?_
    rw [get_put] at h
    split at h
    · cases h
    · exact h
  have main : ∀ l : List Int, x ∈ l → (l.countP fun y => !(getI (putI e x v) y).isSome) < l.countP fun y => !(getI e y).isSome := by
    intro l
    induction l with
    | nil => intro h; cases h
    | cons y l ih =>
      intro h
      rw [List.countP_cons, List.countP_cons]
      by_cases c : y = x
      · subst c
        have e1 : (!(getI (putI e y v) y).isSome) = false := by rw [get_put, if_pos rfl]; rfl
        have e2 : (!(getI e y).isSome) = true := by rw [hn]; rfl
        rw [e1, e2]
        have := gen l
        simp only [Bool.false_eq_true, if_false, if_true]
        omega
      · have hl : x ∈ l := by
          rcases List.mem_cons.mp h with h | h
          · exact absurd h.symm c
          · exact h
        have := ih hl
        have e1 : (!(getI (putI e x v) y).isSome) = (!(getI e y).isSome) := by rw [get_put, if_neg c]
        rw [e1]
        omega
  exact main _ hx
theorem pl_a {p q : Nat} {mk : Mk} {m : Int × Int} (h : m ∈ mk) : m.1 % p ∈ pl p q mk := List.mem_flatMap.mpr ⟨m, h, by simp⟩
theorem pl_b {p q : Nat} {mk : Mk} {m : Int × Int} (h : m ∈ mk) : p + m.1 % q ∈ pl p q mk := List.mem_flatMap.mpr ⟨m, h, by simp⟩
theorem aLt {p : Nat} (hp : 0 < p) (h : Int) : h % p < p := Int.emod_lt_of_pos h (by omega)
theorem bGe {p q : Nat} (hq : 0 < q) (h : Int) : ¬ (p : Int) + h % q < p := by
  have := Int.emod_nonneg h (show (q : Int) ≠ 0 by omega)
  omega
theorem Kn.stepB {p q : Nat} (hp : 0 < p) (hq : 0 < q) {mk : Mk} {L : List Int} {e : List (Int × Int)} (j : Join p q (mk.map (·.1)) L) (k : Kn p q mk L e) {m : Int × Int} (hm : m ∈ mk) {v : Int} (ha : getI e (m.1 % p) = some v) (hb : getI e (p + m.1 % q) = none) :
    Kn p q mk L (putI e (p + m.1 % q) (m.2 - v)) := by
  obtain ⟨a0, a1⟩ := rA (q := q) hp m.1
  obtain ⟨b0, b1⟩ := rB (p := p) hq m.1
  refine ⟨fun x h0 h1 => ?_, fun W hW x u h0 h1 hx => ?_, by have := k.size; have := cnt_lt (v := m.2 - v) (pl_b (p := p) (q := q) hm) hb; rw [put_len hb]; omega⟩
  · rw [get_put]; split
    · rfl
    · exact k.root x h0 h1
  · rw [get_put] at hx
    split at hx
    · rename_i c
      subst c
      have e1 := k.val W hW _ _ a0 a1 ha
      have e2 := j.eq m.1 (List.mem_map_of_mem hm)
      have e3 := hW m hm
      have : u = m.2 - v := (Option.some.inj hx).symm
      rw [if_pos (aLt hp _)] at e1
      rw [if_neg (bGe hq _), ← e2]
      have s1 : sv p W (m.1 % p) = W (m.1 % p) := if_pos (aLt hp _)
      have s2 : sv p W (p + m.1 % q) = -W (p + m.1 % q) := if_neg (bGe hq _)
      rw [s1] at e1
      rw [s2]
      omega
    · exact k.val W hW x u h0 h1 hx
theorem Kn.stepA {p q : Nat} (hp : 0 < p) (hq : 0 < q) {mk : Mk} {L : List Int} {e : List (Int × Int)} (j : Join p q (mk.map (·.1)) L) (k : Kn p q mk L e) {m : Int × Int} (hm : m ∈ mk) {v : Int} (hb : getI e (p + m.1 % q) = some v) (ha : getI e (m.1 % p) = none) :
    Kn p q mk L (putI e (m.1 % p) (m.2 - v)) := by
  obtain ⟨a0, a1⟩ := rA (q := q) hp m.1
  obtain ⟨b0, b1⟩ := rB (p := p) hq m.1
  refine ⟨fun x h0 h1 => ?_, fun W hW x u h0 h1 hx => ?_, by have := k.size; have := cnt_lt (v := m.2 - v) (pl_a (p := p) (q := q) hm) ha; rw [put_len ha]; omega⟩
  · rw [get_put]; split
    · rfl
    · exact k.root x h0 h1
  · rw [get_put] at hx
    split at hx
    · rename_i c
      subst c
      have e1 := k.val W hW _ _ b0 b1 hb
      have e2 := j.eq m.1 (List.mem_map_of_mem hm)
      have e3 := hW m hm
      have : u = m.2 - v := (Option.some.inj hx).symm
      rw [if_neg (bGe hq _)] at e1
      rw [if_pos (aLt hp _), e2]
      have s1 : sv p W (m.1 % p) = W (m.1 % p) := if_pos (aLt hp _)
      have s2 : sv p W (p + m.1 % q) = -W (p + m.1 % q) := if_neg (bGe hq _)
      rw [s2] at e1
      rw [s1]
      omega
    · exact k.val W hW x u h0 h1 hx
end K82
set_option Elab.async false
set_option linter.all false
set_option maxRecDepth 100000
set_option maxHeartbeats 4000000
namespace K82
open G3 L2 G3w
def zeros (L : List Int) : List (Int × Int) := L.foldl (fun e a => putI e a 0) []
theorem zeros_get {L : List Int} {x : Int} : getI (zeros L) x = if x ∈ L then some 0 else none := by
  have h : ∀ (L : List Int) (e : List (Int × Int)), getI (L.foldl (fun e a => putI e a 0) e) x = if x ∈ L then some 0 else getI e x := by
    intro L
    induction L with
    | nil => intro e; simp
    | cons a L ih =>
      intro e
      rw [List.foldl_cons, ih, get_put]
      by_cases c : x = a
      · subst c; simp
      · simp [c]
  have := h L []
  unfold zeros
  rw [this]; rfl
theorem zeros_len {L : List Int} : (zeros L).length ≤ L.length := by
  have h : ∀ (L : List Int) (e : List (Int × Int)), (L.foldl (fun e a => putI e a 0) e).length ≤ e.length + L.length := by
    intro L
    induction L with
    | nil => intro e; simp
    | cons a L ih =>
      intro e
      rw [List.foldl_cons, List.length_cons]
      have h1 := ih (putI e a 0)
      have h2 : (putI e a 0).length ≤ e.length + 1 := by
        cases c : getI e a with
        | none => rw [put_len c]; exact Nat.le_refl _
        | some z =>
          unfold putI
          rw [any_get, c]
          simp
      omega
  have := h L []
  simpa [zeros] using this
theorem cnt_le {p q : Nat} {mk : Mk} {e : List (Int × Int)} : cnt p q mk e ≤ 2 * mk.length := by
  unfold cnt
  refine Nat.le_trans (List.countP_le_length) ?_
  unfold pl
  induction mk with
  | nil => simp
  | cons m mk ih => rw [List.flatMap_cons, List.length_append, List.length_cons]; simp only [List.length_cons, List.length_nil]; omega
theorem Kn.zero {p q : Nat} {mk : Mk} {L : List Int} (j : Join p q (mk.map (·.1)) L) (p1 : p ≤ 100) (q1 : q ≤ 100) (hm : mk.length ≤ 1000) : Kn p q mk L (zeros L) := by
  have mem : ∀ x : Int, 0 ≤ x → x < (p : Int) + q → getZ L x ∈ L := by
    intro x h0 h1
    have := j.len
    unfold getZ
    rw [List.getD_eq_getElem?_getD, List.getElem?_eq_getElem (by omega)]
    exact List.getElem_mem _
  refine ⟨fun x h0 h1 => ?_, fun W hW x v h0 h1 hx => ?_, ?_⟩
  · rw [zeros_get, if_pos (mem x h0 h1)]; rfl
  · rw [zeros_get] at hx
    split at hx
    · rename_i c
      have hv : v = 0 := (Option.some.inj hx).symm
      obtain ⟨n, hn, en⟩ := List.getElem_of_mem c
      have e1 : getZ L (n : Int) = x := by
        unfold getZ
        rw [List.getD_eq_getElem?_getD, Int.toNat_natCast, List.getElem?_eq_getElem hn, en]; rfl
      have := j.len
      have := (j.lab n (by omega) (by omega)).2.2
      rw [e1] at this
      rw [this, hv]
      split <;> omega
    · cases hx
  · have := zeros_len (L := L)
    have := cnt_le (p := p) (q := q) (mk := mk) (e := zeros L)
    have := j.len
    omega
def TW (p q : Nat) (mk : Mk) (r : D) : Prop := (∃ w0 w1 : List Int, r = whl w0 w1 ∧ w0.length = p ∧ w1.length = q ∧ fitB w0 w1 mk = true) ∨ (r = .non ∧ ¬ Fits p q mk)
def sp_told_wheels : Sp3 := fun ds M Q => ∃ (p q : Nat) (mk : Mk), ds = [.int p, .int q, encM mk] ∧ 0 < p ∧ 0 < q ∧ p ≤ 100 ∧ q ≤ 100 ∧ mk.length ≤ 1000 ∧ ∀ r, TW p q mk r → Q r M
/-- all is known at the end, and it fits if wheels fit -/
theorem Kn.all {p q : Nat} {mk : Mk} {L : List Int} {e : List (Int × Int)} (j : Join p q (mk.map (·.1)) L) (k : Kn p q mk L e) (c : Closed p q mk e) (x : Int) (h0 : 0 ≤ x) (h1 : x < (p : Int) + q) : (getI e x).isSome = true := by
  have := j.con (fun y => (getI e y).isSome = true) (fun h hh => by
    obtain ⟨m, hm, rfl⟩ := List.mem_map.mp hh
    rw [c m hm]) x h0 h1
  exact this.mpr (k.root x h0 h1)
def vl (e : List (Int × Int)) (x : Int) : Int := (getI e x).getD 0
theorem Kn.fit {p q : Nat} (hp : 0 < p) (hq : 0 < q) {mk : Mk} {L : List Int} {e : List (Int × Int)} (j : Join p q (mk.map (·.1)) L) (k : Kn p q mk L e) (c : Closed p q mk e) (f : Fits p q mk) : ∀ m ∈ mk, vl e (m.1 % p) + vl e (p + m.1 % q) = m.2 := by
  obtain ⟨W, hW⟩ := f
  intro m hm
  obtain ⟨a0, a1⟩ := rA (q := q) hp m.1
  obtain ⟨b0, b1⟩ := rB (p := p) hq m.1
  obtain ⟨va, ea⟩ := Option.isSome_iff_exists.mp (k.all j c _ a0 a1)
  obtain ⟨vb, eb⟩ := Option.isSome_iff_exists.mp (k.all j c _ b0 b1)
  have e1 := k.val W hW _ _ a0 a1 ea
  have e2 := k.val W hW _ _ b0 b1 eb
  have e3 := hW m hm
  have e4 := j.eq m.1 (List.mem_map_of_mem hm)
  rw [if_pos (aLt hp _)] at e1
  rw [if_neg (bGe hq _)] at e2
  have s1 : sv p W (m.1 % p) = W (m.1 % p) := if_pos (aLt hp _)
  have s2 : sv p W (p + m.1 % q) = -W (p + m.1 % q) := if_neg (bGe hq _)
  rw [s1, e4] at e1
  rw [s2] at e2
  unfold vl
  rw [ea, eb]
  simp only [Option.getD_some]
  omega
/-- the loop's words -/
def twS (p q : Nat) (mk : Mk) (l k : Addr) (c : Bool) (a b x y z w u t : Option D) : S3 := [some (.int p), some (.int q), some (encM mk), some (.ref l), some (.ref k), some (.bl c), a, b, x, y, z, w, u, t]
theorem fit_iff {p q : Nat} (hp : 0 < p) (hq : 0 < q) {mk : Mk} {f g : Int → Int} : fitB ((List.range p).map fun k : Nat => f k) ((List.range q).map fun k : Nat => g k) mk = true ↔ ∀ m ∈ mk, f (m.1 % p) + g (m.1 % q) = m.2 := by
  have gw : ∀ (n : Nat) (f : Int → Int) (t : Int), 0 < n → getW ((List.range n).map fun k : Nat => f k) t = f (t % n) := by
    intro n f t hn
    have m0 := Int.emod_nonneg t (show (n : Int) ≠ 0 by omega)
    have m1 := Int.emod_lt_of_pos t (show (0 : Int) < n by omega)
    unfold getW getZ
    rw [List.length_map, List.length_range, List.getD_eq_getElem?_getD, List.getElem?_map, List.getElem?_range (by omega)]
    simp only [Option.map_some, Option.getD_some]
    congr 1; omega
  unfold fitB hgt
  rw [List.all_eq_true]
  constructor
  · intro h m hm
    have := h m hm
    rw [decide_eq_true_eq, gw p f m.1 hp, gw q g m.1 hq] at this
    exact this
  · intro h m hm
    rw [decide_eq_true_eq, gw p f m.1 hp, gw q g m.1 hq]
    exact h m hm
end K82
set_option Elab.async false
set_option linter.all false
set_option maxRecDepth 100000
set_option maxHeartbeats 4000000
namespace K82
open G3 L2 G3w
theorem t_told_wheels : ∀ ds M Q, sp_told_wheels ds M Q → G3.wpSs (b_told_wheels sp_do_wheels_fit sp_joined_rests) (rets Q) (st3 n_told_wheels.length ds) M := by
  rintro ds M Q ⟨p, q, mk, rfl, hp, hq, p1, q1, hl, hQ⟩
  simp only [b_told_wheels, n_told_wheels, G3.wpSs, G3.wpS, G3.wpE, G3.wpEL, G3.wpO, G3.wpTO, G3.wpT, G3.wpAnd, G3.wpOr, G3.wpAndT, G3.wpOrT, G3.wpI, G3.wpG, G3.wpGs, G3.wipe3, G3.st3, G3.bi3, G3.me3, G3.Me.ty, G3.rets, some3_some, some3_none, atI0, atI1, atI2, atI3, ix3_tup, ix3_cl, getR3_ref, len3_tup, len3_cl, G3.add_int, add_tup, G3.sub_int, G3.mul_int, fdiv_int, G3.mod_int, pow_int, shl_int, aadd_int, asub_int, G3.eq_int, G3.ne_int, G3.lt_int, G3.le_int, G3.gt_int, G3.ge_int, isN_, notN_, inn_, nin_, in3_tup, isNon_int, isNon_non, isNon_tup, isNon_ref, isB3_bl, isI_int, one_, two_, tru_bl, tru_int, tru_non, tru_tup, int3_int, int3_bl, seqAt_tup, listAt_cl, list3_tup, sl3_tup, sl3_cl, neg3_int, seqI_tup, seqI_cl, zip3_tup, chain_t, chain_f, Option.bind_some, List.map_cons, List.map_nil, List.length_cons, List.length_nil, List.length_map, List.length_replicate, List.length_append, List.replicate, List.cons_append, List.nil_append, List.append_nil, Nat.sub_self, List.getElem?_cons_zero, List.getElem?_cons_succ, List.set_cons_zero, List.set_cons_succ, Nat.reduceAdd, Nat.reduceSub, Nat.zero_add, Option.getD_some, Bool.not_true, Bool.not_false, if_true, if_false, ite_true, ite_false, Bool.false_eq_true, reduceIte, decide_eq_true_eq, true_and, and_true]
  unfold encM
  simp only [G3.wpSs, G3.wpS, G3.wpE, G3.wpEL, G3.wpO, G3.wpTO, G3.wpT, G3.wpAnd, G3.wpOr, G3.wpAndT, G3.wpOrT, G3.wpI, G3.wpG, G3.wpGs, G3.wipe3, G3.st3, G3.bi3, G3.me3, G3.Me.ty, G3.rets, some3_some, some3_none, atI0, atI1, atI2, atI3, ix3_tup, ix3_cl, getR3_ref, len3_tup, len3_cl, G3.add_int, add_tup, G3.sub_int, G3.mul_int, fdiv_int, G3.mod_int, pow_int, shl_int, aadd_int, asub_int, G3.eq_int, G3.ne_int, G3.lt_int, G3.le_int, G3.gt_int, G3.ge_int, isN_, notN_, inn_, nin_, in3_tup, isNon_int, isNon_non, isNon_tup, isNon_ref, isB3_bl, isI_int, one_, two_, tru_bl, tru_int, tru_non, tru_tup, int3_int, int3_bl, seqAt_tup, listAt_cl, list3_tup, sl3_tup, sl3_cl, neg3_int, seqI_tup, seqI_cl, zip3_tup, chain_t, chain_f, Option.bind_some, List.map_cons, List.map_nil, List.length_cons, List.length_nil, List.length_map, List.length_replicate, List.length_append, List.replicate, List.cons_append, List.nil_append, List.append_nil, Nat.sub_self, List.getElem?_cons_zero, List.getElem?_cons_succ, List.set_cons_zero, List.set_cons_succ, Nat.reduceAdd, Nat.reduceSub, Nat.zero_add, Option.getD_some, Bool.not_true, Bool.not_false, if_true, if_false, ite_true, ite_false, Bool.false_eq_true, reduceIte, decide_eq_true_eq, true_and, and_true]
  refine lc_mp _ mk (fun m => .int m.1) (fun _ _ => trivial) (fun a ha M' sb Qe h => ?_) (by rw [sline]; omega) ?_
  · simp only [G3.wpSs, G3.wpS, G3.wpE, G3.wpEL, G3.wpO, G3.wpTO, G3.wpT, G3.wpAnd, G3.wpOr, G3.wpAndT, G3.wpOrT, G3.wpI, G3.wpG, G3.wpGs, G3.wipe3, G3.st3, G3.bi3, G3.me3, G3.Me.ty, G3.rets, some3_some, some3_none, atI0, atI1, atI2, atI3, ix3_tup, ix3_cl, getR3_ref, len3_tup, len3_cl, G3.add_int, add_tup, G3.sub_int, G3.mul_int, fdiv_int, G3.mod_int, pow_int, shl_int, aadd_int, asub_int, G3.eq_int, G3.ne_int, G3.lt_int, G3.le_int, G3.gt_int, G3.ge_int, isN_, notN_, inn_, nin_, in3_tup, isNon_int, isNon_non, isNon_tup, isNon_ref, isB3_bl, isI_int, one_, two_, tru_bl, tru_int, tru_non, tru_tup, int3_int, int3_bl, seqAt_tup, listAt_cl, list3_tup, sl3_tup, sl3_cl, neg3_int, seqI_tup, seqI_cl, zip3_tup, chain_t, chain_f, Option.bind_some, List.map_cons, List.map_nil, List.length_cons, List.length_nil, List.length_map, List.length_replicate, List.length_append, List.replicate, List.cons_append, List.nil_append, List.append_nil, Nat.sub_self, List.getElem?_cons_zero, List.getElem?_cons_succ, List.set_cons_zero, List.set_cons_succ, Nat.reduceAdd, Nat.reduceSub, Nat.zero_add, Option.getD_some, Bool.not_true, Bool.not_false, if_true, if_false, ite_true, ite_false, Bool.false_eq_true, reduceIte, decide_eq_true_eq, true_and, and_true]
    exact h _ .refl
  · rw [show (mk.map fun m => D.int m.1) = (mk.map (·.1)).map .int by rw [List.map_map]; rfl]
    intro r hr
    refine ⟨p, q, r, mk.map (·.1), rfl, put_same, hp, hq, p1, q1, fun L j l hl0 => ?_⟩
    obtain ⟨fl, _⟩ := put_free hl0
    have el := put_same (M := put M r (.lst ((mk.map (·.1)).map .int))) (a := l) (o := .lst (L.map .int))
    have sb0 : Sub M (put (put M r (.lst ((mk.map (·.1)).map .int))) l (.lst (L.map .int))) := (Sub.new hr).trans (.new hl0)
    generalize put (put M r (.lst ((mk.map (·.1)).map .int))) l (.lst (L.map .int)) = M1 at *
    simp only [seqI_ref el, G3.wpSs, G3.wpS, G3.wpE, G3.wpEL, G3.wpO, G3.wpTO, G3.wpT, G3.wpAnd, G3.wpOr, G3.wpAndT, G3.wpOrT, G3.wpI, G3.wpG, G3.wpGs, G3.wipe3, G3.st3, G3.bi3, G3.me3, G3.Me.ty, G3.rets, some3_some, some3_none, atI0, atI1, atI2, atI3, ix3_tup, ix3_cl, getR3_ref, len3_tup, len3_cl, G3.add_int, add_tup, G3.sub_int, G3.mul_int, fdiv_int, G3.mod_int, pow_int, shl_int, aadd_int, asub_int, G3.eq_int, G3.ne_int, G3.lt_int, G3.le_int, G3.gt_int, G3.ge_int, isN_, notN_, inn_, nin_, in3_tup, isNon_int, isNon_non, isNon_tup, isNon_ref, isB3_bl, isI_int, one_, two_, tru_bl, tru_int, tru_non, tru_tup, int3_int, int3_bl, seqAt_tup, listAt_cl, list3_tup, sl3_tup, sl3_cl, neg3_int, seqI_tup, seqI_cl, zip3_tup, chain_t, chain_f, Option.bind_some, List.map_cons, List.map_nil, List.length_cons, List.length_nil, List.length_map, List.length_replicate, List.length_append, List.replicate, List.cons_append, List.nil_append, List.append_nil, Nat.sub_self, List.getElem?_cons_zero, List.getElem?_cons_succ, List.set_cons_zero, List.set_cons_succ, Nat.reduceAdd, Nat.reduceSub, Nat.zero_add, Option.getD_some, Bool.not_true, Bool.not_false, if_true, if_false, ite_true, ite_false, Bool.false_eq_true, reduceIte, decide_eq_true_eq, true_and, and_true]
    have jl := j.len
    refine dc_int D.int L (fun a => a) (fun _ => 0) (fun M' sb => sb _ _ el) (fun a ha M' sb R h => ?_) (by rw [sline]; omega) fun k hk => ?_
    · simp only [G3.wpSs, G3.wpS, G3.wpE, G3.wpEL, G3.wpO, G3.wpTO, G3.wpT, G3.wpAnd, G3.wpOr, G3.wpAndT, G3.wpOrT, G3.wpI, G3.wpG, G3.wpGs, G3.wipe3, G3.st3, G3.bi3, G3.me3, G3.Me.ty, G3.rets, some3_some, some3_none, atI0, atI1, atI2, atI3, ix3_tup, ix3_cl, getR3_ref, len3_tup, len3_cl, G3.add_int, add_tup, G3.sub_int, G3.mul_int, fdiv_int, G3.mod_int, pow_int, shl_int, aadd_int, asub_int, G3.eq_int, G3.ne_int, G3.lt_int, G3.le_int, G3.gt_int, G3.ge_int, isN_, notN_, inn_, nin_, in3_tup, isNon_int, isNon_non, isNon_tup, isNon_ref, isB3_bl, isI_int, one_, two_, tru_bl, tru_int, tru_non, tru_tup, int3_int, int3_bl, seqAt_tup, listAt_cl, list3_tup, sl3_tup, sl3_cl, neg3_int, seqI_tup, seqI_cl, zip3_tup, chain_t, chain_f, Option.bind_some, List.map_cons, List.map_nil, List.length_cons, List.length_nil, List.length_map, List.length_replicate, List.length_append, List.replicate, List.cons_append, List.nil_append, List.append_nil, Nat.sub_self, List.getElem?_cons_zero, List.getElem?_cons_succ, List.set_cons_zero, List.set_cons_succ, Nat.reduceAdd, Nat.reduceSub, Nat.zero_add, Option.getD_some, Bool.not_true, Bool.not_false, if_true, if_false, ite_true, ite_false, Bool.false_eq_true, reduceIte, decide_eq_true_eq, true_and, and_true]
      exact h _ .refl
    · have fk : M k = none := by
        cases z : M k with
        | none => rfl
        | some o => rw [sb0 _ _ z] at hk; cases hk
      have ek := put_same (M := M1) (a := k) (o := .dic (encD (zeros L)))
      have sb1 := sb0.put_free (o := .dic (encD (zeros L))) fk
      have kz := Kn.zero j p1 q1 hl
      show G3.whileW _ _ _ _ (put M1 k (.dic (encD (zeros L))))
      generalize put M1 k (.dic (encD (zeros L))) = M2 at *
      clear hr hl0 fl el sb0 hk
      refine ⟨fun n τ M' => ∃ (c : Bool) (e : List (Int × Int)) (a b x y z w u t : Option D), τ = twS p q mk l k c a b x y z w u t ∧ M' k = some (.dic (encD e)) ∧ Kn p q mk L e ∧ Sub M M' ∧ (c = false → Closed p q mk e) ∧ n = 2 * cnt p q mk e + (if c then 1 else 0), ⟨_, true, zeros L, _, _, _, _, _, _, _, _, rfl, ek, kz, sb1, fun h => (by cases h), rfl⟩, ?_⟩
      rintro n τ M' ⟨c, e, a, b, x, y, z, w, u, t, rfl, e1, kn, sb, hc, rfl⟩
      simp only [twS, G3.wpSs, G3.wpS, G3.wpE, G3.wpEL, G3.wpO, G3.wpTO, G3.wpT, G3.wpAnd, G3.wpOr, G3.wpAndT, G3.wpOrT, G3.wpI, G3.wpG, G3.wpGs, G3.wipe3, G3.st3, G3.bi3, G3.me3, G3.Me.ty, G3.rets, some3_some, some3_none, atI0, atI1, atI2, atI3, ix3_tup, ix3_cl, getR3_ref, len3_tup, len3_cl, G3.add_int, add_tup, G3.sub_int, G3.mul_int, fdiv_int, G3.mod_int, pow_int, shl_int, aadd_int, asub_int, G3.eq_int, G3.ne_int, G3.lt_int, G3.le_int, G3.gt_int, G3.ge_int, isN_, notN_, inn_, nin_, in3_tup, isNon_int, isNon_non, isNon_tup, isNon_ref, isB3_bl, isI_int, one_, two_, tru_bl, tru_int, tru_non, tru_tup, int3_int, int3_bl, seqAt_tup, listAt_cl, list3_tup, sl3_tup, sl3_cl, neg3_int, seqI_tup, seqI_cl, zip3_tup, chain_t, chain_f, Option.bind_some, List.map_cons, List.map_nil, List.length_cons, List.length_nil, List.length_map, List.length_replicate, List.length_append, List.replicate, List.cons_append, List.nil_append, List.append_nil, Nat.sub_self, List.getElem?_cons_zero, List.getElem?_cons_succ, List.set_cons_zero, List.set_cons_succ, Nat.reduceAdd, Nat.reduceSub, Nat.zero_add, Option.getD_some, Bool.not_true, Bool.not_false, if_true, if_false, ite_true, ite_false, Bool.false_eq_true, reduceIte, decide_eq_true_eq, true_and, and_true]
      cases c with
      | false =>
        simp only [r1_told_wheels, G3.wpSs, G3.wpS, G3.wpE, G3.wpEL, G3.wpO, G3.wpTO, G3.wpT, G3.wpAnd, G3.wpOr, G3.wpAndT, G3.wpOrT, G3.wpI, G3.wpG, G3.wpGs, G3.wipe3, G3.st3, G3.bi3, G3.me3, G3.Me.ty, G3.rets, some3_some, some3_none, atI0, atI1, atI2, atI3, ix3_tup, ix3_cl, getR3_ref, len3_tup, len3_cl, G3.add_int, add_tup, G3.sub_int, G3.mul_int, fdiv_int, G3.mod_int, pow_int, shl_int, aadd_int, asub_int, G3.eq_int, G3.ne_int, G3.lt_int, G3.le_int, G3.gt_int, G3.ge_int, isN_, notN_, inn_, nin_, in3_tup, isNon_int, isNon_non, isNon_tup, isNon_ref, isB3_bl, isI_int, one_, two_, tru_bl, tru_int, tru_non, tru_tup, int3_int, int3_bl, seqAt_tup, listAt_cl, list3_tup, sl3_tup, sl3_cl, neg3_int, seqI_tup, seqI_cl, zip3_tup, chain_t, chain_f, Option.bind_some, List.map_cons, List.map_nil, List.length_cons, List.length_nil, List.length_map, List.length_replicate, List.length_append, List.replicate, List.cons_append, List.nil_append, List.append_nil, Nat.sub_self, List.getElem?_cons_zero, List.getElem?_cons_succ, List.set_cons_zero, List.set_cons_succ, Nat.reduceAdd, Nat.reduceSub, Nat.zero_add, Option.getD_some, Bool.not_true, Bool.not_false, if_true, if_false, ite_true, ite_false, Bool.false_eq_true, reduceIte, decide_eq_true_eq, true_and, and_true]
        have cl := hc rfl
        have kd : ∀ x : Int, 0 ≤ x → x < (p : Int) + q → getK (encD e) (.inl x) = some (.int (vl e x)) := by
          intro x h0 h1
          obtain ⟨v, hv⟩ := Option.isSome_iff_exists.mp (kn.all j cl x h0 h1)
          rw [getK_enc, hv]; unfold vl; rw [hv]; rfl
        refine wk.of ⟨by omega, by omega, ?_⟩
        rw [show rgD 0 1 (p : Int).toNat = (List.range p).map (fun k : Nat => D.int (k : Nat)) from by rw [Int.toNat_natCast]; unfold rgD; refine List.map_congr_left fun k _ => ?_; congr 1; omega]
        refine lc_mp _ (List.range p) (fun k : Nat => .int (vl e (k : Nat))) (fun _ _ => trivial) (fun x hx M2 sb2 Qe h => ?_) (by rw [List.length_range, sline]; omega) ?_
        · have hx := List.mem_range.mp hx
          simp only [G3.wpSs, G3.wpS, G3.wpE, G3.wpEL, G3.wpO, G3.wpTO, G3.wpT, G3.wpAnd, G3.wpOr, G3.wpAndT, G3.wpOrT, G3.wpI, G3.wpG, G3.wpGs, G3.wipe3, G3.st3, G3.bi3, G3.me3, G3.Me.ty, G3.rets, some3_some, some3_none, atI0, atI1, atI2, atI3, ix3_tup, ix3_cl, getR3_ref, len3_tup, len3_cl, G3.add_int, add_tup, G3.sub_int, G3.mul_int, fdiv_int, G3.mod_int, pow_int, shl_int, aadd_int, asub_int, G3.eq_int, G3.ne_int, G3.lt_int, G3.le_int, G3.gt_int, G3.ge_int, isN_, notN_, inn_, nin_, in3_tup, isNon_int, isNon_non, isNon_tup, isNon_ref, isB3_bl, isI_int, one_, two_, tru_bl, tru_int, tru_non, tru_tup, int3_int, int3_bl, seqAt_tup, listAt_cl, list3_tup, sl3_tup, sl3_cl, neg3_int, seqI_tup, seqI_cl, zip3_tup, chain_t, chain_f, Option.bind_some, List.map_cons, List.map_nil, List.length_cons, List.length_nil, List.length_map, List.length_replicate, List.length_append, List.replicate, List.cons_append, List.nil_append, List.append_nil, Nat.sub_self, List.getElem?_cons_zero, List.getElem?_cons_succ, List.set_cons_zero, List.set_cons_succ, Nat.reduceAdd, Nat.reduceSub, Nat.zero_add, Option.getD_some, Bool.not_true, Bool.not_false, if_true, if_false, ite_true, ite_false, Bool.false_eq_true, reduceIte, decide_eq_true_eq, true_and, and_true]
          rw [ix3_dic (sb2 _ _ e1), kd _ (by omega) (by omega)]
          exact h _ .refl
        · intro b1 hb1
          simp only [seqAt_ref put_same, G3.wpSs, G3.wpS, G3.wpE, G3.wpEL, G3.wpO, G3.wpTO, G3.wpT, G3.wpAnd, G3.wpOr, G3.wpAndT, G3.wpOrT, G3.wpI, G3.wpG, G3.wpGs, G3.wipe3, G3.st3, G3.bi3, G3.me3, G3.Me.ty, G3.rets, some3_some, some3_none, atI0, atI1, atI2, atI3, ix3_tup, ix3_cl, getR3_ref, len3_tup, len3_cl, G3.add_int, add_tup, G3.sub_int, G3.mul_int, fdiv_int, G3.mod_int, pow_int, shl_int, aadd_int, asub_int, G3.eq_int, G3.ne_int, G3.lt_int, G3.le_int, G3.gt_int, G3.ge_int, isN_, notN_, inn_, nin_, in3_tup, isNon_int, isNon_non, isNon_tup, isNon_ref, isB3_bl, isI_int, one_, two_, tru_bl, tru_int, tru_non, tru_tup, int3_int, int3_bl, seqAt_tup, listAt_cl, list3_tup, sl3_tup, sl3_cl, neg3_int, seqI_tup, seqI_cl, zip3_tup, chain_t, chain_f, Option.bind_some, List.map_cons, List.map_nil, List.length_cons, List.length_nil, List.length_map, List.length_replicate, List.length_append, List.replicate, List.cons_append, List.nil_append, List.append_nil, Nat.sub_self, List.getElem?_cons_zero, List.getElem?_cons_succ, List.set_cons_zero, List.set_cons_succ, Nat.reduceAdd, Nat.reduceSub, Nat.zero_add, Option.getD_some, Bool.not_true, Bool.not_false, if_true, if_false, ite_true, ite_false, Bool.false_eq_true, reduceIte, decide_eq_true_eq, true_and, and_true]
          refine ⟨by omega, by omega, ?_⟩
          have e2 := put_keep (o' := .lst ((List.range p).map fun k : Nat => D.int (vl e (k : Nat)))) e1 hb1
          have sb3 := sb.trans (Sub.new (o := .lst ((List.range p).map fun k : Nat => D.int (vl e (k : Nat)))) hb1)
          generalize put M' b1 (.lst ((List.range p).map fun k : Nat => D.int (vl e (k : Nat)))) = M3 at *
          rw [show rgD 0 1 (q : Int).toNat = (List.range q).map (fun k : Nat => D.int (k : Nat)) from by rw [Int.toNat_natCast]; unfold rgD; refine List.map_congr_left fun k _ => ?_; congr 1; omega]
          refine lc_mp _ (List.range q) (fun k : Nat => .int (vl e (p + (k : Nat)))) (fun _ _ => trivial) (fun x hx M2 sb2 Qe h => ?_) (by rw [List.length_range, sline]; omega) ?_
          · have hx := List.mem_range.mp hx
            simp only [G3.wpSs, G3.wpS, G3.wpE, G3.wpEL, G3.wpO, G3.wpTO, G3.wpT, G3.wpAnd, G3.wpOr, G3.wpAndT, G3.wpOrT, G3.wpI, G3.wpG, G3.wpGs, G3.wipe3, G3.st3, G3.bi3, G3.me3, G3.Me.ty, G3.rets, some3_some, some3_none, atI0, atI1, atI2, atI3, ix3_tup, ix3_cl, getR3_ref, len3_tup, len3_cl, G3.add_int, add_tup, G3.sub_int, G3.mul_int, fdiv_int, G3.mod_int, pow_int, shl_int, aadd_int, asub_int, G3.eq_int, G3.ne_int, G3.lt_int, G3.le_int, G3.gt_int, G3.ge_int, isN_, notN_, inn_, nin_, in3_tup, isNon_int, isNon_non, isNon_tup, isNon_ref, isB3_bl, isI_int, one_, two_, tru_bl, tru_int, tru_non, tru_tup, int3_int, int3_bl, seqAt_tup, listAt_cl, list3_tup, sl3_tup, sl3_cl, neg3_int, seqI_tup, seqI_cl, zip3_tup, chain_t, chain_f, Option.bind_some, List.map_cons, List.map_nil, List.length_cons, List.length_nil, List.length_map, List.length_replicate, List.length_append, List.replicate, List.cons_append, List.nil_append, List.append_nil, Nat.sub_self, List.getElem?_cons_zero, List.getElem?_cons_succ, List.set_cons_zero, List.set_cons_succ, Nat.reduceAdd, Nat.reduceSub, Nat.zero_add, Option.getD_some, Bool.not_true, Bool.not_false, if_true, if_false, ite_true, ite_false, Bool.false_eq_true, reduceIte, decide_eq_true_eq, true_and, and_true]
            rw [ix3_dic (sb2 _ _ e2), kd _ (by omega) (by omega)]
            exact h _ .refl
          · intro b2 hb2
            simp only [seqAt_ref put_same, G3.wpSs, G3.wpS, G3.wpE, G3.wpEL, G3.wpO, G3.wpTO, G3.wpT, G3.wpAnd, G3.wpOr, G3.wpAndT, G3.wpOrT, G3.wpI, G3.wpG, G3.wpGs, G3.wipe3, G3.st3, G3.bi3, G3.me3, G3.Me.ty, G3.rets, some3_some, some3_none, atI0, atI1, atI2, atI3, ix3_tup, ix3_cl, getR3_ref, len3_tup, len3_cl, G3.add_int, add_tup, G3.sub_int, G3.mul_int, fdiv_int, G3.mod_int, pow_int, shl_int, aadd_int, asub_int, G3.eq_int, G3.ne_int, G3.lt_int, G3.le_int, G3.gt_int, G3.ge_int, isN_, notN_, inn_, nin_, in3_tup, isNon_int, isNon_non, isNon_tup, isNon_ref, isB3_bl, isI_int, one_, two_, tru_bl, tru_int, tru_non, tru_tup, int3_int, int3_bl, seqAt_tup, listAt_cl, list3_tup, sl3_tup, sl3_cl, neg3_int, seqI_tup, seqI_cl, zip3_tup, chain_t, chain_f, Option.bind_some, List.map_cons, List.map_nil, List.length_cons, List.length_nil, List.length_map, List.length_replicate, List.length_append, List.replicate, List.cons_append, List.nil_append, List.append_nil, Nat.sub_self, List.getElem?_cons_zero, List.getElem?_cons_succ, List.set_cons_zero, List.set_cons_succ, Nat.reduceAdd, Nat.reduceSub, Nat.zero_add, Option.getD_some, Bool.not_true, Bool.not_false, if_true, if_false, ite_true, ite_false, Bool.false_eq_true, reduceIte, decide_eq_true_eq, true_and, and_true]
            have sb4 := sb3.trans (Sub.new (o := .lst ((List.range q).map fun k : Nat => D.int (vl e (p + (k : Nat))))) hb2)
            generalize put M3 b2 (.lst ((List.range q).map fun k : Nat => D.int (vl e (p + (k : Nat))))) = M4 at *
            have hw : D.tup [.tup ((List.range p).map fun k : Nat => D.int (vl e (k : Nat))), .tup ((List.range q).map fun k : Nat => D.int (vl e (p + (k : Nat))))] = whl ((List.range p).map fun k : Nat => vl e k) ((List.range q).map fun k : Nat => (fun z => vl e (p + z)) k) := by
              unfold whl encI
              rw [List.map_map, List.map_map]; rfl
            rw [hw]
            refine ⟨_, _, mk, rfl, by simp; omega, by simp; omega, hl, ?_⟩
            have fi := fit_iff hp hq (mk := mk) (f := fun k => vl e k) (g := fun k => vl e (p + k))
            simp only [G3.wpSs, G3.wpS, G3.wpE, G3.wpEL, G3.wpO, G3.wpTO, G3.wpT, G3.wpAnd, G3.wpOr, G3.wpAndT, G3.wpOrT, G3.wpI, G3.wpG, G3.wpGs, G3.wipe3, G3.st3, G3.bi3, G3.me3, G3.Me.ty, G3.rets, some3_some, some3_none, atI0, atI1, atI2, atI3, ix3_tup, ix3_cl, getR3_ref, len3_tup, len3_cl, G3.add_int, add_tup, G3.sub_int, G3.mul_int, fdiv_int, G3.mod_int, pow_int, shl_int, aadd_int, asub_int, G3.eq_int, G3.ne_int, G3.lt_int, G3.le_int, G3.gt_int, G3.ge_int, isN_, notN_, inn_, nin_, in3_tup, isNon_int, isNon_non, isNon_tup, isNon_ref, isB3_bl, isI_int, one_, two_, tru_bl, tru_int, tru_non, tru_tup, int3_int, int3_bl, seqAt_tup, listAt_cl, list3_tup, sl3_tup, sl3_cl, neg3_int, seqI_tup, seqI_cl, zip3_tup, chain_t, chain_f, Option.bind_some, List.map_cons, List.map_nil, List.length_cons, List.length_nil, List.length_map, List.length_replicate, List.length_append, List.replicate, List.cons_append, List.nil_append, List.append_nil, Nat.sub_self, List.getElem?_cons_zero, List.getElem?_cons_succ, List.set_cons_zero, List.set_cons_succ, Nat.reduceAdd, Nat.reduceSub, Nat.zero_add, Option.getD_some, Bool.not_true, Bool.not_false, if_true, if_false, ite_true, ite_false, Bool.false_eq_true, reduceIte, decide_eq_true_eq, true_and, and_true]
            generalize hb : fitB ((List.range p).map fun k : Nat => vl e k) ((List.range q).map fun k : Nat => (fun z => vl e (p + z)) k) mk = bb at *
            have hb' := hb
            cases bb with
            | true =>
              simp only [G3.wpSs, G3.wpS, G3.wpE, G3.wpEL, G3.wpO, G3.wpTO, G3.wpT, G3.wpAnd, G3.wpOr, G3.wpAndT, G3.wpOrT, G3.wpI, G3.wpG, G3.wpGs, G3.wipe3, G3.st3, G3.bi3, G3.me3, G3.Me.ty, G3.rets, some3_some, some3_none, atI0, atI1, atI2, atI3, ix3_tup, ix3_cl, getR3_ref, len3_tup, len3_cl, G3.add_int, add_tup, G3.sub_int, G3.mul_int, fdiv_int, G3.mod_int, pow_int, shl_int, aadd_int, asub_int, G3.eq_int, G3.ne_int, G3.lt_int, G3.le_int, G3.gt_int, G3.ge_int, isN_, notN_, inn_, nin_, in3_tup, isNon_int, isNon_non, isNon_tup, isNon_ref, isB3_bl, isI_int, one_, two_, tru_bl, tru_int, tru_non, tru_tup, int3_int, int3_bl, seqAt_tup, listAt_cl, list3_tup, sl3_tup, sl3_cl, neg3_int, seqI_tup, seqI_cl, zip3_tup, chain_t, chain_f, Option.bind_some, List.map_cons, List.map_nil, List.length_cons, List.length_nil, List.length_map, List.length_replicate, List.length_append, List.replicate, List.cons_append, List.nil_append, List.append_nil, Nat.sub_self, List.getElem?_cons_zero, List.getElem?_cons_succ, List.set_cons_zero, List.set_cons_succ, Nat.reduceAdd, Nat.reduceSub, Nat.zero_add, Option.getD_some, Bool.not_true, Bool.not_false, if_true, if_false, ite_true, ite_false, Bool.false_eq_true, reduceIte, decide_eq_true_eq, true_and, and_true]
              exact wk_sub sb4 (hQ _ (.inl ⟨_, _, rfl, by simp, by simp, hb⟩))
            | false =>
              simp only [G3.wpSs, G3.wpS, G3.wpE, G3.wpEL, G3.wpO, G3.wpTO, G3.wpT, G3.wpAnd, G3.wpOr, G3.wpAndT, G3.wpOrT, G3.wpI, G3.wpG, G3.wpGs, G3.wipe3, G3.st3, G3.bi3, G3.me3, G3.Me.ty, G3.rets, some3_some, some3_none, atI0, atI1, atI2, atI3, ix3_tup, ix3_cl, getR3_ref, len3_tup, len3_cl, G3.add_int, add_tup, G3.sub_int, G3.mul_int, fdiv_int, G3.mod_int, pow_int, shl_int, aadd_int, asub_int, G3.eq_int, G3.ne_int, G3.lt_int, G3.le_int, G3.gt_int, G3.ge_int, isN_, notN_, inn_, nin_, in3_tup, isNon_int, isNon_non, isNon_tup, isNon_ref, isB3_bl, isI_int, one_, two_, tru_bl, tru_int, tru_non, tru_tup, int3_int, int3_bl, seqAt_tup, listAt_cl, list3_tup, sl3_tup, sl3_cl, neg3_int, seqI_tup, seqI_cl, zip3_tup, chain_t, chain_f, Option.bind_some, List.map_cons, List.map_nil, List.length_cons, List.length_nil, List.length_map, List.length_replicate, List.length_append, List.replicate, List.cons_append, List.nil_append, List.append_nil, Nat.sub_self, List.getElem?_cons_zero, List.getElem?_cons_succ, List.set_cons_zero, List.set_cons_succ, Nat.reduceAdd, Nat.reduceSub, Nat.zero_add, Option.getD_some, Bool.not_true, Bool.not_false, if_true, if_false, ite_true, ite_false, Bool.false_eq_true, reduceIte, decide_eq_true_eq, true_and, and_true]
              refine wk_sub sb4 (hQ _ (.inr ⟨rfl, fun f => ?_⟩))
              have := fi.mpr (kn.fit hp hq j cl f)
              cases this
      | true =>
        simp only [encM, G3.wpSs, G3.wpS, G3.wpE, G3.wpEL, G3.wpO, G3.wpTO, G3.wpT, G3.wpAnd, G3.wpOr, G3.wpAndT, G3.wpOrT, G3.wpI, G3.wpG, G3.wpGs, G3.wipe3, G3.st3, G3.bi3, G3.me3, G3.Me.ty, G3.rets, some3_some, some3_none, atI0, atI1, atI2, atI3, ix3_tup, ix3_cl, getR3_ref, len3_tup, len3_cl, G3.add_int, add_tup, G3.sub_int, G3.mul_int, fdiv_int, G3.mod_int, pow_int, shl_int, aadd_int, asub_int, G3.eq_int, G3.ne_int, G3.lt_int, G3.le_int, G3.gt_int, G3.ge_int, isN_, notN_, inn_, nin_, in3_tup, isNon_int, isNon_non, isNon_tup, isNon_ref, isB3_bl, isI_int, one_, two_, tru_bl, tru_int, tru_non, tru_tup, int3_int, int3_bl, seqAt_tup, listAt_cl, list3_tup, sl3_tup, sl3_cl, neg3_int, seqI_tup, seqI_cl, zip3_tup, chain_t, chain_f, Option.bind_some, List.map_cons, List.map_nil, List.length_cons, List.length_nil, List.length_map, List.length_replicate, List.length_append, List.replicate, List.cons_append, List.nil_append, List.append_nil, Nat.sub_self, List.getElem?_cons_zero, List.getElem?_cons_succ, List.set_cons_zero, List.set_cons_succ, Nat.reduceAdd, Nat.reduceSub, Nat.zero_add, Option.getD_some, Bool.not_true, Bool.not_false, if_true, if_false, ite_true, ite_false, Bool.false_eq_true, reduceIte, decide_eq_true_eq, true_and, and_true]
        refine ⟨fun i τ M' => ∃ (c : Bool) (e' : List (Int × Int)) (a b x y z w u t : Option D), τ = twS p q mk l k c a b x y z w u t ∧ M' k = some (.dic (encD e')) ∧ Kn p q mk L e' ∧ Sub M M' ∧ ((c = true ∧ cnt p q mk e' < cnt p q mk e) ∨ (c = false ∧ e' = e ∧ ∀ m ∈ mk.take i, (getI e (m.1 % p)).isSome = (getI e (p + m.1 % q)).isSome)), ⟨false, e, a, b, x, y, z, w, u, t, rfl, e1, kn, sb, .inr ⟨rfl, rfl, fun m hm => by simp at hm⟩⟩, ?_⟩
        rintro i τ M3 ⟨c, e', a, b, x, y, z, w, u, t, rfl, e3, kn3, sb3, hc3⟩ hi
        rw [List.length_map] at hi ⊢
        refine ⟨trivial, fun d hd => ?_, fun ei => ?_⟩
        · rw [List.getElem?_map] at hd
          cases hz : mk[i]? with
          | none => rw [hz] at hd; cases hd
          | some m =>
            rw [hz] at hd
            cases hd
            have hm := List.mem_of_getElem? hz
            have hsz : (encD e').length < PySem.sizeLine := by have := kn3.size; rw [enc_len, sline]; omega
            simp only [twS, inn_, nin_, in3_dic e3, getK_enc, Option.isSome_map, id, G3.wpSs, G3.wpS, G3.wpE, G3.wpEL, G3.wpO, G3.wpTO, G3.wpT, G3.wpAnd, G3.wpOr, G3.wpAndT, G3.wpOrT, G3.wpI, G3.wpG, G3.wpGs, G3.wipe3, G3.st3, G3.bi3, G3.me3, G3.Me.ty, G3.rets, some3_some, some3_none, atI0, atI1, atI2, atI3, ix3_tup, ix3_cl, getR3_ref, len3_tup, len3_cl, G3.add_int, add_tup, G3.sub_int, G3.mul_int, fdiv_int, G3.mod_int, pow_int, shl_int, aadd_int, asub_int, G3.eq_int, G3.ne_int, G3.lt_int, G3.le_int, G3.gt_int, G3.ge_int, isN_, notN_, inn_, nin_, in3_tup, isNon_int, isNon_non, isNon_tup, isNon_ref, isB3_bl, isI_int, one_, two_, tru_bl, tru_int, tru_non, tru_tup, int3_int, int3_bl, seqAt_tup, listAt_cl, list3_tup, sl3_tup, sl3_cl, neg3_int, seqI_tup, seqI_cl, zip3_tup, chain_t, chain_f, Option.bind_some, List.map_cons, List.map_nil, List.length_cons, List.length_nil, List.length_map, List.length_replicate, List.length_append, List.replicate, List.cons_append, List.nil_append, List.append_nil, Nat.sub_self, List.getElem?_cons_zero, List.getElem?_cons_succ, List.set_cons_zero, List.set_cons_succ, Nat.reduceAdd, Nat.reduceSub, Nat.zero_add, Option.getD_some, Bool.not_true, Bool.not_false, if_true, if_false, ite_true, ite_false, Bool.false_eq_true, reduceIte, decide_eq_true_eq, true_and, and_true]
            have take1 : mk.take (i + 1) = mk.take i ++ [m] := by rw [List.take_add_one, hz]; rfl
            have same : (getI e' (m.1 % p)).isSome = (getI e' (p + m.1 % q)).isSome → (c = true ∧ cnt p q mk e' < cnt p q mk e) ∨ (c = false ∧ e' = e ∧ ∀ m ∈ mk.take (i + 1), (getI e (m.1 % p)).isSome = (getI e (p + m.1 % q)).isSome) := by
              intro hs
              rcases hc3 with h | ⟨h1, h2, h3⟩
              · exact .inl h
              · refine .inr ⟨h1, h2, fun m' hm' => ?_⟩
                rw [take1] at hm'
                rcases List.mem_append.mp hm' with h | h
                · exact h3 m' h
                · rw [List.mem_singleton] at h
                  subst h; rw [← h2]; exact hs
            have le3 : cnt p q mk e' ≤ cnt p q mk e := by
              rcases hc3 with ⟨_, h⟩ | ⟨_, h, _⟩
              · omega
              · rw [h]; exact Nat.le_refl _
            refine ⟨by omega, by omega, ?_⟩
            cases ha : getI e' (m.1 % p) with
            | none =>
              cases hb : getI e' (p + m.1 % q) with
              | none =>
                simp only [Option.isSome_none, G3.wpSs, G3.wpS, G3.wpE, G3.wpEL, G3.wpO, G3.wpTO, G3.wpT, G3.wpAnd, G3.wpOr, G3.wpAndT, G3.wpOrT, G3.wpI, G3.wpG, G3.wpGs, G3.wipe3, G3.st3, G3.bi3, G3.me3, G3.Me.ty, G3.rets, some3_some, some3_none, atI0, atI1, atI2, atI3, ix3_tup, ix3_cl, getR3_ref, len3_tup, len3_cl, G3.add_int, add_tup, G3.sub_int, G3.mul_int, fdiv_int, G3.mod_int, pow_int, shl_int, aadd_int, asub_int, G3.eq_int, G3.ne_int, G3.lt_int, G3.le_int, G3.gt_int, G3.ge_int, isN_, notN_, inn_, nin_, in3_tup, isNon_int, isNon_non, isNon_tup, isNon_ref, isB3_bl, isI_int, one_, two_, tru_bl, tru_int, tru_non, tru_tup, int3_int, int3_bl, seqAt_tup, listAt_cl, list3_tup, sl3_tup, sl3_cl, neg3_int, seqI_tup, seqI_cl, zip3_tup, chain_t, chain_f, Option.bind_some, List.map_cons, List.map_nil, List.length_cons, List.length_nil, List.length_map, List.length_replicate, List.length_append, List.replicate, List.cons_append, List.nil_append, List.append_nil, Nat.sub_self, List.getElem?_cons_zero, List.getElem?_cons_succ, List.set_cons_zero, List.set_cons_succ, Nat.reduceAdd, Nat.reduceSub, Nat.zero_add, Option.getD_some, Bool.not_true, Bool.not_false, if_true, if_false, ite_true, ite_false, Bool.false_eq_true, reduceIte, decide_eq_true_eq, true_and, and_true]
                exact wk.of ⟨_, e', _, _, _, _, _, _, _, _, rfl, e3, kn3, sb3, same (by rw [ha, hb])⟩
              | some v =>
                simp only [Option.isSome_none, Option.isSome_some, G3.wpSs, G3.wpS, G3.wpE, G3.wpEL, G3.wpO, G3.wpTO, G3.wpT, G3.wpAnd, G3.wpOr, G3.wpAndT, G3.wpOrT, G3.wpI, G3.wpG, G3.wpGs, G3.wipe3, G3.st3, G3.bi3, G3.me3, G3.Me.ty, G3.rets, some3_some, some3_none, atI0, atI1, atI2, atI3, ix3_tup, ix3_cl, getR3_ref, len3_tup, len3_cl, G3.add_int, add_tup, G3.sub_int, G3.mul_int, fdiv_int, G3.mod_int, pow_int, shl_int, aadd_int, asub_int, G3.eq_int, G3.ne_int, G3.lt_int, G3.le_int, G3.gt_int, G3.ge_int, isN_, notN_, inn_, nin_, in3_tup, isNon_int, isNon_non, isNon_tup, isNon_ref, isB3_bl, isI_int, one_, two_, tru_bl, tru_int, tru_non, tru_tup, int3_int, int3_bl, seqAt_tup, listAt_cl, list3_tup, sl3_tup, sl3_cl, neg3_int, seqI_tup, seqI_cl, zip3_tup, chain_t, chain_f, Option.bind_some, List.map_cons, List.map_nil, List.length_cons, List.length_nil, List.length_map, List.length_replicate, List.length_append, List.replicate, List.cons_append, List.nil_append, List.append_nil, Nat.sub_self, List.getElem?_cons_zero, List.getElem?_cons_succ, List.set_cons_zero, List.set_cons_succ, Nat.reduceAdd, Nat.reduceSub, Nat.zero_add, Option.getD_some, Bool.not_true, Bool.not_false, if_true, if_false, ite_true, ite_false, Bool.false_eq_true, reduceIte, decide_eq_true_eq, true_and, and_true]
                rw [ix3_dic e3, getK_enc, hb]
                simp only [Option.map_some, G3.wpSs, G3.wpS, G3.wpE, G3.wpEL, G3.wpO, G3.wpTO, G3.wpT, G3.wpAnd, G3.wpOr, G3.wpAndT, G3.wpOrT, G3.wpI, G3.wpG, G3.wpGs, G3.wipe3, G3.st3, G3.bi3, G3.me3, G3.Me.ty, G3.rets, some3_some, some3_none, atI0, atI1, atI2, atI3, ix3_tup, ix3_cl, getR3_ref, len3_tup, len3_cl, G3.add_int, add_tup, G3.sub_int, G3.mul_int, fdiv_int, G3.mod_int, pow_int, shl_int, aadd_int, asub_int, G3.eq_int, G3.ne_int, G3.lt_int, G3.le_int, G3.gt_int, G3.ge_int, isN_, notN_, inn_, nin_, in3_tup, isNon_int, isNon_non, isNon_tup, isNon_ref, isB3_bl, isI_int, one_, two_, tru_bl, tru_int, tru_non, tru_tup, int3_int, int3_bl, seqAt_tup, listAt_cl, list3_tup, sl3_tup, sl3_cl, neg3_int, seqI_tup, seqI_cl, zip3_tup, chain_t, chain_f, Option.bind_some, List.map_cons, List.map_nil, List.length_cons, List.length_nil, List.length_map, List.length_replicate, List.length_append, List.replicate, List.cons_append, List.nil_append, List.append_nil, Nat.sub_self, List.getElem?_cons_zero, List.getElem?_cons_succ, List.set_cons_zero, List.set_cons_succ, Nat.reduceAdd, Nat.reduceSub, Nat.zero_add, Option.getD_some, Bool.not_true, Bool.not_false, if_true, if_false, ite_true, ite_false, Bool.false_eq_true, reduceIte, decide_eq_true_eq, true_and, and_true]
                rw [set3_dic e3, putD_enc]
                refine ⟨hsz, wk.of ⟨true, _, _, _, _, _, _, _, _, _, rfl, put_same, kn3.stepA hp hq j hm hb ha, sb3.put_free fk, .inl ⟨rfl, Nat.lt_of_lt_of_le (cnt_lt (pl_a hm) ha) le3⟩⟩⟩
            | some v =>
              cases hb : getI e' (p + m.1 % q) with
              | none =>
                simp only [Option.isSome_none, Option.isSome_some, G3.wpSs, G3.wpS, G3.wpE, G3.wpEL, G3.wpO, G3.wpTO, G3.wpT, G3.wpAnd, G3.wpOr, G3.wpAndT, G3.wpOrT, G3.wpI, G3.wpG, G3.wpGs, G3.wipe3, G3.st3, G3.bi3, G3.me3, G3.Me.ty, G3.rets, some3_some, some3_none, atI0, atI1, atI2, atI3, ix3_tup, ix3_cl, getR3_ref, len3_tup, len3_cl, G3.add_int, add_tup, G3.sub_int, G3.mul_int, fdiv_int, G3.mod_int, pow_int, shl_int, aadd_int, asub_int, G3.eq_int, G3.ne_int, G3.lt_int, G3.le_int, G3.gt_int, G3.ge_int, isN_, notN_, inn_, nin_, in3_tup, isNon_int, isNon_non, isNon_tup, isNon_ref, isB3_bl, isI_int, one_, two_, tru_bl, tru_int, tru_non, tru_tup, int3_int, int3_bl, seqAt_tup, listAt_cl, list3_tup, sl3_tup, sl3_cl, neg3_int, seqI_tup, seqI_cl, zip3_tup, chain_t, chain_f, Option.bind_some, List.map_cons, List.map_nil, List.length_cons, List.length_nil, List.length_map, List.length_replicate, List.length_append, List.replicate, List.cons_append, List.nil_append, List.append_nil, Nat.sub_self, List.getElem?_cons_zero, List.getElem?_cons_succ, List.set_cons_zero, List.set_cons_succ, Nat.reduceAdd, Nat.reduceSub, Nat.zero_add, Option.getD_some, Bool.not_true, Bool.not_false, if_true, if_false, ite_true, ite_false, Bool.false_eq_true, reduceIte, decide_eq_true_eq, true_and, and_true]
                rw [ix3_dic e3, getK_enc, ha]
                simp only [Option.map_some, G3.wpSs, G3.wpS, G3.wpE, G3.wpEL, G3.wpO, G3.wpTO, G3.wpT, G3.wpAnd, G3.wpOr, G3.wpAndT, G3.wpOrT, G3.wpI, G3.wpG, G3.wpGs, G3.wipe3, G3.st3, G3.bi3, G3.me3, G3.Me.ty, G3.rets, some3_some, some3_none, atI0, atI1, atI2, atI3, ix3_tup, ix3_cl, getR3_ref, len3_tup, len3_cl, G3.add_int, add_tup, G3.sub_int, G3.mul_int, fdiv_int, G3.mod_int, pow_int, shl_int, aadd_int, asub_int, G3.eq_int, G3.ne_int, G3.lt_int, G3.le_int, G3.gt_int, G3.ge_int, isN_, notN_, inn_, nin_, in3_tup, isNon_int, isNon_non, isNon_tup, isNon_ref, isB3_bl, isI_int, one_, two_, tru_bl, tru_int, tru_non, tru_tup, int3_int, int3_bl, seqAt_tup, listAt_cl, list3_tup, sl3_tup, sl3_cl, neg3_int, seqI_tup, seqI_cl, zip3_tup, chain_t, chain_f, Option.bind_some, List.map_cons, List.map_nil, List.length_cons, List.length_nil, List.length_map, List.length_replicate, List.length_append, List.replicate, List.cons_append, List.nil_append, List.append_nil, Nat.sub_self, List.getElem?_cons_zero, List.getElem?_cons_succ, List.set_cons_zero, List.set_cons_succ, Nat.reduceAdd, Nat.reduceSub, Nat.zero_add, Option.getD_some, Bool.not_true, Bool.not_false, if_true, if_false, ite_true, ite_false, Bool.false_eq_true, reduceIte, decide_eq_true_eq, true_and, and_true]
                rw [set3_dic e3, putD_enc]
                refine ⟨hsz, wk.of ⟨true, _, _, _, _, _, _, _, _, _, rfl, put_same, kn3.stepB hp hq j hm ha hb, sb3.put_free fk, .inl ⟨rfl, Nat.lt_of_lt_of_le (cnt_lt (pl_b hm) hb) le3⟩⟩⟩
              | some v' =>
                simp only [Option.isSome_none, Option.isSome_some, G3.wpSs, G3.wpS, G3.wpE, G3.wpEL, G3.wpO, G3.wpTO, G3.wpT, G3.wpAnd, G3.wpOr, G3.wpAndT, G3.wpOrT, G3.wpI, G3.wpG, G3.wpGs, G3.wipe3, G3.st3, G3.bi3, G3.me3, G3.Me.ty, G3.rets, some3_some, some3_none, atI0, atI1, atI2, atI3, ix3_tup, ix3_cl, getR3_ref, len3_tup, len3_cl, G3.add_int, add_tup, G3.sub_int, G3.mul_int, fdiv_int, G3.mod_int, pow_int, shl_int, aadd_int, asub_int, G3.eq_int, G3.ne_int, G3.lt_int, G3.le_int, G3.gt_int, G3.ge_int, isN_, notN_, inn_, nin_, in3_tup, isNon_int, isNon_non, isNon_tup, isNon_ref, isB3_bl, isI_int, one_, two_, tru_bl, tru_int, tru_non, tru_tup, int3_int, int3_bl, seqAt_tup, listAt_cl, list3_tup, sl3_tup, sl3_cl, neg3_int, seqI_tup, seqI_cl, zip3_tup, chain_t, chain_f, Option.bind_some, List.map_cons, List.map_nil, List.length_cons, List.length_nil, List.length_map, List.length_replicate, List.length_append, List.replicate, List.cons_append, List.nil_append, List.append_nil, Nat.sub_self, List.getElem?_cons_zero, List.getElem?_cons_succ, List.set_cons_zero, List.set_cons_succ, Nat.reduceAdd, Nat.reduceSub, Nat.zero_add, Option.getD_some, Bool.not_true, Bool.not_false, if_true, if_false, ite_true, ite_false, Bool.false_eq_true, reduceIte, decide_eq_true_eq, true_and, and_true]
                exact wk.of ⟨_, e', _, _, _, _, _, _, _, _, rfl, e3, kn3, sb3, same (by rw [ha, hb]; rfl)⟩
        · subst ei
          rw [List.take_length] at hc3
          refine wk.of ?_
          rcases hc3 with ⟨rfl, hlt⟩ | ⟨rfl, rfl, hcl⟩
          · exact ⟨_, by simp; omega, wk.of ⟨true, e', _, _, _, _, _, _, _, _, rfl, e3, kn3, sb3, fun h => (by cases h), rfl⟩⟩
          · exact ⟨_, by simp, wk.of ⟨false, e', _, _, _, _, _, _, _, _, rfl, e3, kn3, sb3, fun _ => hcl, rfl⟩⟩
end K82
set_option Elab.async false
set_option linter.all false
set_option maxRecDepth 100000
set_option maxHeartbeats 4000000
namespace K82
open G3 L2 G3w
noncomputable def fitsB (p q : Nat) (mk : Mk) : Bool := @decide (Fits p q mk) (Classical.propDecidable _)
theorem fitsB_iff {p q : Nat} {mk : Mk} : fitsB p q mk = true ↔ Fits p q mk := by unfold fitsB; exact @decide_eq_true_iff _ (Classical.propDecidable _)
def encP (x : Nat × Nat) : D := .tup [.int (x.1 : Nat), .int (x.2 : Nat)]
def row (most i : Nat) : List (Nat × Nat) := (List.range (most - i)).map fun j => (1 + i, 1 + i + j)
def pairsL (most n : Nat) : List (Nat × Nat) := (List.range n).flatMap (row most)
theorem pairs_succ {most n : Nat} : pairsL most (n + 1) = pairsL most n ++ row most n := by
  unfold pairsL
  rw [List.range_succ, List.flatMap_append]; simp
theorem row_len {most i : Nat} : (row most i).length ≤ most := by unfold row; rw [List.length_map, List.length_range]; omega
theorem pairs_len {most n : Nat} : (pairsL most n).length ≤ n * most := by
  induction n with
  | zero => simp [pairsL]
  | succ n ih =>
    rw [pairs_succ, List.length_append, Nat.succ_mul]
    have := row_len (most := most) (i := n)
    omega
def perL (P : Nat → Nat → Bool) (most n : Nat) : List (Nat × Nat) := (pairsL most n).filter fun x => P x.1 x.2
def sp_fitting_periods : Sp3 := fun ds M Q => ∃ (mk : Mk) (most : Nat), ds = [encM mk, .int most] ∧ most ≤ 100 ∧ mk.length ≤ 1000 ∧ Q (.tup ((perL (fun p q => fitsB p q mk) most most).map encP)) M
theorem mem_pairs {most n : Nat} {x : Nat × Nat} (h : x ∈ pairsL most n) (hn : n ≤ most) : 0 < x.1 ∧ 0 < x.2 ∧ x.1 ≤ most ∧ x.2 ≤ most := by
  unfold pairsL row at h
  obtain ⟨i, hi, h⟩ := List.mem_flatMap.mp h
  obtain ⟨j, hj, rfl⟩ := List.mem_map.mp h
  rw [List.mem_range] at hi hj
  simp only []
  omega
theorem t_fitting_periods : ∀ ds M Q, sp_fitting_periods ds M Q → G3.wpSs (b_fitting_periods sp_told_wheels) (rets Q) (st3 n_fitting_periods.length ds) M := by
  rintro ds M Q ⟨mk, most, rfl, h1, hl, q⟩
  simp only [b_fitting_periods, n_fitting_periods, G3.wpSs, G3.wpS, G3.wpE, G3.wpEL, G3.wpO, G3.wpTO, G3.wpT, G3.wpAnd, G3.wpOr, G3.wpAndT, G3.wpOrT, G3.wpI, G3.wpG, G3.wpGs, G3.wipe3, G3.st3, G3.bi3, G3.me3, G3.Me.ty, G3.rets, some3_some, some3_none, atI0, atI1, atI2, atI3, ix3_tup, ix3_cl, getR3_ref, len3_tup, len3_cl, G3.add_int, add_tup, G3.sub_int, G3.mul_int, fdiv_int, G3.mod_int, pow_int, shl_int, aadd_int, asub_int, G3.eq_int, G3.ne_int, G3.lt_int, G3.le_int, G3.gt_int, G3.ge_int, isN_, notN_, inn_, nin_, in3_tup, isNon_int, isNon_non, isNon_tup, isNon_ref, isB3_bl, isI_int, one_, two_, tru_bl, tru_int, tru_non, tru_tup, int3_int, int3_bl, seqAt_tup, listAt_cl, list3_tup, sl3_tup, sl3_cl, neg3_int, seqI_tup, seqI_cl, zip3_tup, chain_t, chain_f, Option.bind_some, List.map_cons, List.map_nil, List.length_cons, List.length_nil, List.length_map, List.length_replicate, List.length_append, List.replicate, List.cons_append, List.nil_append, List.append_nil, Nat.sub_self, List.getElem?_cons_zero, List.getElem?_cons_succ, List.set_cons_zero, List.set_cons_succ, Nat.reduceAdd, Nat.reduceSub, Nat.zero_add, Option.getD_some, Bool.not_true, Bool.not_false, if_true, if_false, ite_true, ite_false, Bool.false_eq_true, reduceIte, decide_eq_true_eq, true_and, and_true]
  refine ⟨⟨by omega, by omega, by omega, by omega⟩, fun r hr => ?_⟩
  have em : ((most : Int) + 1 - 1).toNat = most := by omega
  rw [em]
  refine ⟨fun i acc M' => acc = (pairsL most i).map encP ∧ M' = put M r (.lst acc), ⟨rfl, rfl⟩, ?_⟩
  rintro i acc M' ⟨rfl, rfl⟩ hi
  rw [rgD_length] at hi ⊢
  refine ⟨trivial, fun d hd => ?_, fun ei => ?_⟩
  · obtain ⟨hi2, rfl⟩ := rgD_get hd
    simp only [G3.wpSs, G3.wpS, G3.wpE, G3.wpEL, G3.wpO, G3.wpTO, G3.wpT, G3.wpAnd, G3.wpOr, G3.wpAndT, G3.wpOrT, G3.wpI, G3.wpG, G3.wpGs, G3.wipe3, G3.st3, G3.bi3, G3.me3, G3.Me.ty, G3.rets, some3_some, some3_none, atI0, atI1, atI2, atI3, ix3_tup, ix3_cl, getR3_ref, len3_tup, len3_cl, G3.add_int, add_tup, G3.sub_int, G3.mul_int, fdiv_int, G3.mod_int, pow_int, shl_int, aadd_int, asub_int, G3.eq_int, G3.ne_int, G3.lt_int, G3.le_int, G3.gt_int, G3.ge_int, isN_, notN_, inn_, nin_, in3_tup, isNon_int, isNon_non, isNon_tup, isNon_ref, isB3_bl, isI_int, one_, two_, tru_bl, tru_int, tru_non, tru_tup, int3_int, int3_bl, seqAt_tup, listAt_cl, list3_tup, sl3_tup, sl3_cl, neg3_int, seqI_tup, seqI_cl, zip3_tup, chain_t, chain_f, Option.bind_some, List.map_cons, List.map_nil, List.length_cons, List.length_nil, List.length_map, List.length_replicate, List.length_append, List.replicate, List.cons_append, List.nil_append, List.append_nil, Nat.sub_self, List.getElem?_cons_zero, List.getElem?_cons_succ, List.set_cons_zero, List.set_cons_succ, Nat.reduceAdd, Nat.reduceSub, Nat.zero_add, Option.getD_some, Bool.not_true, Bool.not_false, if_true, if_false, ite_true, ite_false, Bool.false_eq_true, reduceIte, decide_eq_true_eq, true_and, and_true]
    refine ⟨⟨by omega, by omega, by omega, by omega⟩, ?_⟩
    have em2 : ((most : Int) + 1 - (1 + (i : Nat) * 1)).toNat = most - i := by omega
    rw [em2]
    refine ⟨fun j acc M' => acc = (pairsL most i ++ ((List.range j).map fun j => (1 + i, 1 + i + j))).map encP ∧ M' = put M r (.lst acc), ⟨by simp, rfl⟩, ?_⟩
    rintro j acc M' ⟨rfl, rfl⟩ hj
    rw [rgD_length] at hj ⊢
    refine ⟨fun d1 hd1 => ?_, fun ej => ?_⟩
    · obtain ⟨hj2, rfl⟩ := rgD_get hd1
      refine ⟨?_, put_same, wk.of ⟨?_, by rw [put_put]⟩⟩
      · have := pairs_len (most := most) (n := i)
        have h3 : i * most ≤ 100 * 100 := Nat.mul_le_mul (by omega) h1
        rw [sline]
        simp only [List.length_map, List.length_append, List.length_range]; omega
      · rw [List.range_succ]
        simp only [List.map_append, List.map_cons, List.map_nil, ← List.append_assoc]
        congr 1
        unfold encP
        simp
    · subst ej
      exact wk.of ⟨by rw [pairs_succ]; rfl, rfl⟩
  · subst ei
    refine wk.of ?_
    have er := put_same (M := M) (a := r) (o := .lst ((pairsL i i).map encP))
    have sb0 := Sub.new (o := .lst ((pairsL i i).map encP)) hr
    generalize put M r (.lst ((pairsL i i).map encP)) = M1 at *
    simp only [seqI_ref er, G3.wpSs, G3.wpS, G3.wpE, G3.wpEL, G3.wpO, G3.wpTO, G3.wpT, G3.wpAnd, G3.wpOr, G3.wpAndT, G3.wpOrT, G3.wpI, G3.wpG, G3.wpGs, G3.wipe3, G3.st3, G3.bi3, G3.me3, G3.Me.ty, G3.rets, some3_some, some3_none, atI0, atI1, atI2, atI3, ix3_tup, ix3_cl, getR3_ref, len3_tup, len3_cl, G3.add_int, add_tup, G3.sub_int, G3.mul_int, fdiv_int, G3.mod_int, pow_int, shl_int, aadd_int, asub_int, G3.eq_int, G3.ne_int, G3.lt_int, G3.le_int, G3.gt_int, G3.ge_int, isN_, notN_, inn_, nin_, in3_tup, isNon_int, isNon_non, isNon_tup, isNon_ref, isB3_bl, isI_int, one_, two_, tru_bl, tru_int, tru_non, tru_tup, int3_int, int3_bl, seqAt_tup, listAt_cl, list3_tup, sl3_tup, sl3_cl, neg3_int, seqI_tup, seqI_cl, zip3_tup, chain_t, chain_f, Option.bind_some, List.map_cons, List.map_nil, List.length_cons, List.length_nil, List.length_map, List.length_replicate, List.length_append, List.replicate, List.cons_append, List.nil_append, List.append_nil, Nat.sub_self, List.getElem?_cons_zero, List.getElem?_cons_succ, List.set_cons_zero, List.set_cons_succ, Nat.reduceAdd, Nat.reduceSub, Nat.zero_add, Option.getD_some, Bool.not_true, Bool.not_false, if_true, if_false, ite_true, ite_false, Bool.false_eq_true, reduceIte, decide_eq_true_eq, true_and, and_true]
    have hlen : (pairsL i i).length ≤ 10000 := Nat.le_trans pairs_len (Nat.mul_le_mul h1 h1)
    refine lc_fm encP (pairsL i i) (fun x => if fitsB x.1 x.2 mk = true then some (encP x) else none) (fun M' sb => sb _ _ er) (fun x hx M' sb Qe Qn k1 k2 => ?_) (by rw [sline]; omega) ?_
    · obtain ⟨g1, g2, g3, g4⟩ := mem_pairs hx (Nat.le_refl _)
      simp only [encP, G3.wpSs, G3.wpS, G3.wpE, G3.wpEL, G3.wpO, G3.wpTO, G3.wpT, G3.wpAnd, G3.wpOr, G3.wpAndT, G3.wpOrT, G3.wpI, G3.wpG, G3.wpGs, G3.wipe3, G3.st3, G3.bi3, G3.me3, G3.Me.ty, G3.rets, some3_some, some3_none, atI0, atI1, atI2, atI3, ix3_tup, ix3_cl, getR3_ref, len3_tup, len3_cl, G3.add_int, add_tup, G3.sub_int, G3.mul_int, fdiv_int, G3.mod_int, pow_int, shl_int, aadd_int, asub_int, G3.eq_int, G3.ne_int, G3.lt_int, G3.le_int, G3.gt_int, G3.ge_int, isN_, notN_, inn_, nin_, in3_tup, isNon_int, isNon_non, isNon_tup, isNon_ref, isB3_bl, isI_int, one_, two_, tru_bl, tru_int, tru_non, tru_tup, int3_int, int3_bl, seqAt_tup, listAt_cl, list3_tup, sl3_tup, sl3_cl, neg3_int, seqI_tup, seqI_cl, zip3_tup, chain_t, chain_f, Option.bind_some, List.map_cons, List.map_nil, List.length_cons, List.length_nil, List.length_map, List.length_replicate, List.length_append, List.replicate, List.cons_append, List.nil_append, List.append_nil, Nat.sub_self, List.getElem?_cons_zero, List.getElem?_cons_succ, List.set_cons_zero, List.set_cons_succ, Nat.reduceAdd, Nat.reduceSub, Nat.zero_add, Option.getD_some, Bool.not_true, Bool.not_false, if_true, if_false, ite_true, ite_false, Bool.false_eq_true, reduceIte, decide_eq_true_eq, true_and, and_true]
      refine ⟨x.1, x.2, mk, rfl, g1, g2, by omega, by omega, hl, fun z hz => ?_⟩
      rcases hz with ⟨w0, w1, rfl, e1, e2, hf⟩ | ⟨rfl, hf⟩
      · have hF : Fits x.1 x.2 mk := by
          have hp := g1; have hq := g2
          refine ⟨fun y => if y < x.1 then getZ w0 y else getZ w1 (y - x.1), fun m hm => ?_⟩
          have := List.all_eq_true.mp hf m hm
          rw [decide_eq_true_eq] at this
          unfold hgt getW at this
          rw [e1, e2] at this
          simp only []
          rw [if_pos (aLt hp _), if_neg (bGe hq _)]
          rw [show (x.1 : Int) + m.1 % x.2 - x.1 = m.1 % x.2 by omega]
          exact this
        rw [if_pos (fitsB_iff.mpr hF)] at k1
        simp only [notN_, whl, G3.wpSs, G3.wpS, G3.wpE, G3.wpEL, G3.wpO, G3.wpTO, G3.wpT, G3.wpAnd, G3.wpOr, G3.wpAndT, G3.wpOrT, G3.wpI, G3.wpG, G3.wpGs, G3.wipe3, G3.st3, G3.bi3, G3.me3, G3.Me.ty, G3.rets, some3_some, some3_none, atI0, atI1, atI2, atI3, ix3_tup, ix3_cl, getR3_ref, len3_tup, len3_cl, G3.add_int, add_tup, G3.sub_int, G3.mul_int, fdiv_int, G3.mod_int, pow_int, shl_int, aadd_int, asub_int, G3.eq_int, G3.ne_int, G3.lt_int, G3.le_int, G3.gt_int, G3.ge_int, isN_, notN_, inn_, nin_, in3_tup, isNon_int, isNon_non, isNon_tup, isNon_ref, isB3_bl, isI_int, one_, two_, tru_bl, tru_int, tru_non, tru_tup, int3_int, int3_bl, seqAt_tup, listAt_cl, list3_tup, sl3_tup, sl3_cl, neg3_int, seqI_tup, seqI_cl, zip3_tup, chain_t, chain_f, Option.bind_some, List.map_cons, List.map_nil, List.length_cons, List.length_nil, List.length_map, List.length_replicate, List.length_append, List.replicate, List.cons_append, List.nil_append, List.append_nil, Nat.sub_self, List.getElem?_cons_zero, List.getElem?_cons_succ, List.set_cons_zero, List.set_cons_succ, Nat.reduceAdd, Nat.reduceSub, Nat.zero_add, Option.getD_some, Bool.not_true, Bool.not_false, if_true, if_false, ite_true, ite_false, Bool.false_eq_true, reduceIte, decide_eq_true_eq, true_and, and_true]
        exact k1 _ rfl _ .refl
      · rw [if_neg fun z => hf (fitsB_iff.mp z)] at k2
        simp only [notN_, G3.wpSs, G3.wpS, G3.wpE, G3.wpEL, G3.wpO, G3.wpTO, G3.wpT, G3.wpAnd, G3.wpOr, G3.wpAndT, G3.wpOrT, G3.wpI, G3.wpG, G3.wpGs, G3.wipe3, G3.st3, G3.bi3, G3.me3, G3.Me.ty, G3.rets, some3_some, some3_none, atI0, atI1, atI2, atI3, ix3_tup, ix3_cl, getR3_ref, len3_tup, len3_cl, G3.add_int, add_tup, G3.sub_int, G3.mul_int, fdiv_int, G3.mod_int, pow_int, shl_int, aadd_int, asub_int, G3.eq_int, G3.ne_int, G3.lt_int, G3.le_int, G3.gt_int, G3.ge_int, isN_, notN_, inn_, nin_, in3_tup, isNon_int, isNon_non, isNon_tup, isNon_ref, isB3_bl, isI_int, one_, two_, tru_bl, tru_int, tru_non, tru_tup, int3_int, int3_bl, seqAt_tup, listAt_cl, list3_tup, sl3_tup, sl3_cl, neg3_int, seqI_tup, seqI_cl, zip3_tup, chain_t, chain_f, Option.bind_some, List.map_cons, List.map_nil, List.length_cons, List.length_nil, List.length_map, List.length_replicate, List.length_append, List.replicate, List.cons_append, List.nil_append, List.append_nil, Nat.sub_self, List.getElem?_cons_zero, List.getElem?_cons_succ, List.set_cons_zero, List.set_cons_succ, Nat.reduceAdd, Nat.reduceSub, Nat.zero_add, Option.getD_some, Bool.not_true, Bool.not_false, if_true, if_false, ite_true, ite_false, Bool.false_eq_true, reduceIte, decide_eq_true_eq, true_and, and_true]
        exact k2 rfl _ .refl
    · have ef : (pairsL i i).filterMap (fun x => if fitsB x.1 x.2 mk = true then some (encP x) else none) = (perL (fun p q => fitsB p q mk) i i).map encP := by
        unfold perL
        generalize pairsL i i = l
        induction l with
        | nil => rfl
        | cons x l ih =>
          rw [List.filterMap_cons, List.filter_cons]
          by_cases c : fitsB x.1 x.2 mk = true
          · simp only [if_pos c, ih]; rfl
          · simp only [if_neg c, ih]
      rw [ef]
      intro t ht
      simp only [seqAt_ref put_same, G3.wpSs, G3.wpS, G3.wpE, G3.wpEL, G3.wpO, G3.wpTO, G3.wpT, G3.wpAnd, G3.wpOr, G3.wpAndT, G3.wpOrT, G3.wpI, G3.wpG, G3.wpGs, G3.wipe3, G3.st3, G3.bi3, G3.me3, G3.Me.ty, G3.rets, some3_some, some3_none, atI0, atI1, atI2, atI3, ix3_tup, ix3_cl, getR3_ref, len3_tup, len3_cl, G3.add_int, add_tup, G3.sub_int, G3.mul_int, fdiv_int, G3.mod_int, pow_int, shl_int, aadd_int, asub_int, G3.eq_int, G3.ne_int, G3.lt_int, G3.le_int, G3.gt_int, G3.ge_int, isN_, notN_, inn_, nin_, in3_tup, isNon_int, isNon_non, isNon_tup, isNon_ref, isB3_bl, isI_int, one_, two_, tru_bl, tru_int, tru_non, tru_tup, int3_int, int3_bl, seqAt_tup, listAt_cl, list3_tup, sl3_tup, sl3_cl, neg3_int, seqI_tup, seqI_cl, zip3_tup, chain_t, chain_f, Option.bind_some, List.map_cons, List.map_nil, List.length_cons, List.length_nil, List.length_map, List.length_replicate, List.length_append, List.replicate, List.cons_append, List.nil_append, List.append_nil, Nat.sub_self, List.getElem?_cons_zero, List.getElem?_cons_succ, List.set_cons_zero, List.set_cons_succ, Nat.reduceAdd, Nat.reduceSub, Nat.zero_add, Option.getD_some, Bool.not_true, Bool.not_false, if_true, if_false, ite_true, ite_false, Bool.false_eq_true, reduceIte, decide_eq_true_eq, true_and, and_true]
      exact wk_sub (sb0.trans (.new ht)) q
end K82
set_option Elab.async false
set_option linter.all false
set_option maxRecDepth 100000
set_option maxHeartbeats 4000000
namespace K82
open G3 L2 G3w
def shift (mk : Mk) (k : Int) : Mk := mk.map fun m => (m.1 + k, m.2)
theorem shift_len {mk : Mk} {k : Int} : (shift mk k).length = mk.length := by unfold shift; rw [List.length_map]
def sp_later_marks : Sp3 := fun ds M Q => ∃ (mk : Mk) (k : Int), ds = [encM mk, .int k] ∧ mk.length ≤ 1000 ∧ Q (encM (shift mk k)) M
theorem t_later_marks : ∀ ds M Q, sp_later_marks ds M Q → G3.wpSs b_later_marks (rets Q) (st3 n_later_marks.length ds) M := by
  rintro ds M Q ⟨mk, k, rfl, hl, q⟩
  simp only [n_later_marks, b_later_marks, encM, G3.wpSs, G3.wpS, G3.wpE, G3.wpEL, G3.wpO, G3.wpTO, G3.wpT, G3.wpAnd, G3.wpOr, G3.wpAndT, G3.wpOrT, G3.wpI, G3.wpG, G3.wpGs, G3.wipe3, G3.st3, G3.bi3, G3.me3, G3.Me.ty, G3.rets, some3_some, some3_none, atI0, atI1, atI2, atI3, ix3_tup, ix3_cl, getR3_ref, len3_tup, len3_cl, G3.add_int, add_tup, G3.sub_int, G3.mul_int, fdiv_int, G3.mod_int, pow_int, shl_int, aadd_int, asub_int, G3.eq_int, G3.ne_int, G3.lt_int, G3.le_int, G3.gt_int, G3.ge_int, isN_, notN_, inn_, nin_, in3_tup, isNon_int, isNon_non, isNon_tup, isNon_ref, isB3_bl, isI_int, one_, two_, tru_bl, tru_int, tru_non, tru_tup, int3_int, int3_bl, seqAt_tup, listAt_cl, list3_tup, sl3_tup, sl3_cl, neg3_int, seqI_tup, seqI_cl, zip3_tup, chain_t, chain_f, Option.bind_some, List.map_cons, List.map_nil, List.length_cons, List.length_nil, List.length_map, List.length_replicate, List.length_append, List.replicate, List.cons_append, List.nil_append, List.append_nil, Nat.sub_self, List.getElem?_cons_zero, List.getElem?_cons_succ, List.set_cons_zero, List.set_cons_succ, Nat.reduceAdd, Nat.reduceSub, Nat.zero_add, Option.getD_some, Bool.not_true, Bool.not_false, if_true, if_false, ite_true, ite_false, Bool.false_eq_true, reduceIte, decide_eq_true_eq, true_and, and_true]
  refine lc_mp _ mk (fun m => .tup [.int (m.1 + k), .int m.2]) (fun _ _ => trivial) (fun a ha M' sb Qe h => ?_) (by rw [sline]; omega) ?_
  · simp only [G3.wpSs, G3.wpS, G3.wpE, G3.wpEL, G3.wpO, G3.wpTO, G3.wpT, G3.wpAnd, G3.wpOr, G3.wpAndT, G3.wpOrT, G3.wpI, G3.wpG, G3.wpGs, G3.wipe3, G3.st3, G3.bi3, G3.me3, G3.Me.ty, G3.rets, some3_some, some3_none, atI0, atI1, atI2, atI3, ix3_tup, ix3_cl, getR3_ref, len3_tup, len3_cl, G3.add_int, add_tup, G3.sub_int, G3.mul_int, fdiv_int, G3.mod_int, pow_int, shl_int, aadd_int, asub_int, G3.eq_int, G3.ne_int, G3.lt_int, G3.le_int, G3.gt_int, G3.ge_int, isN_, notN_, inn_, nin_, in3_tup, isNon_int, isNon_non, isNon_tup, isNon_ref, isB3_bl, isI_int, one_, two_, tru_bl, tru_int, tru_non, tru_tup, int3_int, int3_bl, seqAt_tup, listAt_cl, list3_tup, sl3_tup, sl3_cl, neg3_int, seqI_tup, seqI_cl, zip3_tup, chain_t, chain_f, Option.bind_some, List.map_cons, List.map_nil, List.length_cons, List.length_nil, List.length_map, List.length_replicate, List.length_append, List.replicate, List.cons_append, List.nil_append, List.append_nil, Nat.sub_self, List.getElem?_cons_zero, List.getElem?_cons_succ, List.set_cons_zero, List.set_cons_succ, Nat.reduceAdd, Nat.reduceSub, Nat.zero_add, Option.getD_some, Bool.not_true, Bool.not_false, if_true, if_false, ite_true, ite_false, Bool.false_eq_true, reduceIte, decide_eq_true_eq, true_and, and_true]
    exact h _ .refl
  · intro p hp
    simp only [seqAt_ref put_same, G3.wpSs, G3.wpS, G3.wpE, G3.wpEL, G3.wpO, G3.wpTO, G3.wpT, G3.wpAnd, G3.wpOr, G3.wpAndT, G3.wpOrT, G3.wpI, G3.wpG, G3.wpGs, G3.wipe3, G3.st3, G3.bi3, G3.me3, G3.Me.ty, G3.rets, some3_some, some3_none, atI0, atI1, atI2, atI3, ix3_tup, ix3_cl, getR3_ref, len3_tup, len3_cl, G3.add_int, add_tup, G3.sub_int, G3.mul_int, fdiv_int, G3.mod_int, pow_int, shl_int, aadd_int, asub_int, G3.eq_int, G3.ne_int, G3.lt_int, G3.le_int, G3.gt_int, G3.ge_int, isN_, notN_, inn_, nin_, in3_tup, isNon_int, isNon_non, isNon_tup, isNon_ref, isB3_bl, isI_int, one_, two_, tru_bl, tru_int, tru_non, tru_tup, int3_int, int3_bl, seqAt_tup, listAt_cl, list3_tup, sl3_tup, sl3_cl, neg3_int, seqI_tup, seqI_cl, zip3_tup, chain_t, chain_f, Option.bind_some, List.map_cons, List.map_nil, List.length_cons, List.length_nil, List.length_map, List.length_replicate, List.length_append, List.replicate, List.cons_append, List.nil_append, List.append_nil, Nat.sub_self, List.getElem?_cons_zero, List.getElem?_cons_succ, List.set_cons_zero, List.set_cons_succ, Nat.reduceAdd, Nat.reduceSub, Nat.zero_add, Option.getD_some, Bool.not_true, Bool.not_false, if_true, if_false, ite_true, ite_false, Bool.false_eq_true, reduceIte, decide_eq_true_eq, true_and, and_true]
    refine wk_new hp ?_
    unfold encM shift at q
    rw [List.map_map] at q
    exact q
def offs (w0 w1 : List Int) (mk : Mk) : List Nat := (List.range (lcmN w0 w1)).filter fun k : Nat => fitB w0 w1 (shift mk k)
theorem offs_len {w0 w1 : List Int} {mk : Mk} (w : Wh w0 w1) : (offs w0 w1 mk).length ≤ 10000 := by
  unfold offs
  exact Nat.le_trans (List.length_filter_le _ _) (by rw [List.length_range]; exact lcm_le w.l0 w.l1)
def encN (l : List Nat) : D := .tup (l.map fun k : Nat => .int k)
theorem fm_nat {P : Nat → Bool} : ∀ l : List Nat, l.filterMap (fun k => if P k = true then some (D.int (k : Nat)) else none) = (l.filter P).map fun k : Nat => .int k
  | [] => rfl
  | a :: l => by
    rw [List.filterMap_cons, List.filter_cons]
    by_cases h : P a = true
    · simp only [if_pos h]; rw [fm_nat l]; rfl
    · simp only [if_neg h]; rw [fm_nat l]
def sp_fitting_offsets : Sp3 := fun ds M Q => ∃ (w0 w1 : List Int) (mk : Mk), ds = [whl w0 w1, encM mk] ∧ Wh w0 w1 ∧ mk.length ≤ 1000 ∧ Q (encN (offs w0 w1 mk)) M
theorem t_fitting_offsets : ∀ ds M Q, sp_fitting_offsets ds M Q → G3.wpSs (b_fitting_offsets sp_do_wheels_fit sp_later_marks) (rets Q) (st3 n_fitting_offsets.length ds) M := by
  rintro ds M Q ⟨w0, w1, mk, rfl, w, hl, q⟩
  have hll := lcm_le w.l0 w.l1
  have l0 := w.l0
  have l1 := w.l1
  simp only [n_fitting_offsets, b_fitting_offsets, whl, encI, Int.natAbs_natCast, Int.toNat_natCast, G3.wpSs, G3.wpS, G3.wpE, G3.wpEL, G3.wpO, G3.wpTO, G3.wpT, G3.wpAnd, G3.wpOr, G3.wpAndT, G3.wpOrT, G3.wpI, G3.wpG, G3.wpGs, G3.wipe3, G3.st3, G3.bi3, G3.me3, G3.Me.ty, G3.rets, some3_some, some3_none, atI0, atI1, atI2, atI3, ix3_tup, ix3_cl, getR3_ref, len3_tup, len3_cl, G3.add_int, add_tup, G3.sub_int, G3.mul_int, fdiv_int, G3.mod_int, pow_int, shl_int, aadd_int, asub_int, G3.eq_int, G3.ne_int, G3.lt_int, G3.le_int, G3.gt_int, G3.ge_int, isN_, notN_, inn_, nin_, in3_tup, isNon_int, isNon_non, isNon_tup, isNon_ref, isB3_bl, isI_int, one_, two_, tru_bl, tru_int, tru_non, tru_tup, int3_int, int3_bl, seqAt_tup, listAt_cl, list3_tup, sl3_tup, sl3_cl, neg3_int, seqI_tup, seqI_cl, zip3_tup, chain_t, chain_f, Option.bind_some, List.map_cons, List.map_nil, List.length_cons, List.length_nil, List.length_map, List.length_replicate, List.length_append, List.replicate, List.cons_append, List.nil_append, List.append_nil, Nat.sub_self, List.getElem?_cons_zero, List.getElem?_cons_succ, List.set_cons_zero, List.set_cons_succ, Nat.reduceAdd, Nat.reduceSub, Nat.zero_add, Option.getD_some, Bool.not_true, Bool.not_false, if_true, if_false, ite_true, ite_false, Bool.false_eq_true, reduceIte, decide_eq_true_eq, true_and, and_true]
  refine ⟨by omega, by omega, by omega, ?_, ?_⟩
  · unfold lcmN at hll; omega
  · rw [show rgD 0 1 (w0.length.lcm w1.length) = (List.range (lcmN w0 w1)).map (fun k : Nat => D.int (k : Nat)) from by unfold rgD lcmN; refine List.map_congr_left fun k _ => ?_; congr 1; omega]
    refine lc_fm _ (List.range (lcmN w0 w1)) (fun k : Nat => if fitB w0 w1 (shift mk k) = true then some (.int (k : Nat)) else none) (fun _ _ => trivial) (fun k hk M' sb Qe Qn k1 k2 => ?_) (by rw [List.length_range, sline]; omega) ?_
    · simp only [G3.wpSs, G3.wpS, G3.wpE, G3.wpEL, G3.wpO, G3.wpTO, G3.wpT, G3.wpAnd, G3.wpOr, G3.wpAndT, G3.wpOrT, G3.wpI, G3.wpG, G3.wpGs, G3.wipe3, G3.st3, G3.bi3, G3.me3, G3.Me.ty, G3.rets, some3_some, some3_none, atI0, atI1, atI2, atI3, ix3_tup, ix3_cl, getR3_ref, len3_tup, len3_cl, G3.add_int, add_tup, G3.sub_int, G3.mul_int, fdiv_int, G3.mod_int, pow_int, shl_int, aadd_int, asub_int, G3.eq_int, G3.ne_int, G3.lt_int, G3.le_int, G3.gt_int, G3.ge_int, isN_, notN_, inn_, nin_, in3_tup, isNon_int, isNon_non, isNon_tup, isNon_ref, isB3_bl, isI_int, one_, two_, tru_bl, tru_int, tru_non, tru_tup, int3_int, int3_bl, seqAt_tup, listAt_cl, list3_tup, sl3_tup, sl3_cl, neg3_int, seqI_tup, seqI_cl, zip3_tup, chain_t, chain_f, Option.bind_some, List.map_cons, List.map_nil, List.length_cons, List.length_nil, List.length_map, List.length_replicate, List.length_append, List.replicate, List.cons_append, List.nil_append, List.append_nil, Nat.sub_self, List.getElem?_cons_zero, List.getElem?_cons_succ, List.set_cons_zero, List.set_cons_succ, Nat.reduceAdd, Nat.reduceSub, Nat.zero_add, Option.getD_some, Bool.not_true, Bool.not_false, if_true, if_false, ite_true, ite_false, Bool.false_eq_true, reduceIte, decide_eq_true_eq, true_and, and_true]
      refine ⟨mk, k, rfl, hl, w0, w1, shift mk k, rfl, w.h0, w.h1, by rw [shift_len]; exact hl, ?_⟩
      simp only [G3.wpSs, G3.wpS, G3.wpE, G3.wpEL, G3.wpO, G3.wpTO, G3.wpT, G3.wpAnd, G3.wpOr, G3.wpAndT, G3.wpOrT, G3.wpI, G3.wpG, G3.wpGs, G3.wipe3, G3.st3, G3.bi3, G3.me3, G3.Me.ty, G3.rets, some3_some, some3_none, atI0, atI1, atI2, atI3, ix3_tup, ix3_cl, getR3_ref, len3_tup, len3_cl, G3.add_int, add_tup, G3.sub_int, G3.mul_int, fdiv_int, G3.mod_int, pow_int, shl_int, aadd_int, asub_int, G3.eq_int, G3.ne_int, G3.lt_int, G3.le_int, G3.gt_int, G3.ge_int, isN_, notN_, inn_, nin_, in3_tup, isNon_int, isNon_non, isNon_tup, isNon_ref, isB3_bl, isI_int, one_, two_, tru_bl, tru_int, tru_non, tru_tup, int3_int, int3_bl, seqAt_tup, listAt_cl, list3_tup, sl3_tup, sl3_cl, neg3_int, seqI_tup, seqI_cl, zip3_tup, chain_t, chain_f, Option.bind_some, List.map_cons, List.map_nil, List.length_cons, List.length_nil, List.length_map, List.length_replicate, List.length_append, List.replicate, List.cons_append, List.nil_append, List.append_nil, Nat.sub_self, List.getElem?_cons_zero, List.getElem?_cons_succ, List.set_cons_zero, List.set_cons_succ, Nat.reduceAdd, Nat.reduceSub, Nat.zero_add, Option.getD_some, Bool.not_true, Bool.not_false, if_true, if_false, ite_true, ite_false, Bool.false_eq_true, reduceIte, decide_eq_true_eq, true_and, and_true]
      by_cases c : fitB w0 w1 (shift mk k) = true
      · rw [if_pos c] at k1 ⊢; exact k1 _ rfl _ .refl
      · rw [if_neg c] at k2 ⊢; exact k2 rfl _ .refl
    · rw [fm_nat]
      intro p hp
      simp only [seqAt_ref put_same, G3.wpSs, G3.wpS, G3.wpE, G3.wpEL, G3.wpO, G3.wpTO, G3.wpT, G3.wpAnd, G3.wpOr, G3.wpAndT, G3.wpOrT, G3.wpI, G3.wpG, G3.wpGs, G3.wipe3, G3.st3, G3.bi3, G3.me3, G3.Me.ty, G3.rets, some3_some, some3_none, atI0, atI1, atI2, atI3, ix3_tup, ix3_cl, getR3_ref, len3_tup, len3_cl, G3.add_int, add_tup, G3.sub_int, G3.mul_int, fdiv_int, G3.mod_int, pow_int, shl_int, aadd_int, asub_int, G3.eq_int, G3.ne_int, G3.lt_int, G3.le_int, G3.gt_int, G3.ge_int, isN_, notN_, inn_, nin_, in3_tup, isNon_int, isNon_non, isNon_tup, isNon_ref, isB3_bl, isI_int, one_, two_, tru_bl, tru_int, tru_non, tru_tup, int3_int, int3_bl, seqAt_tup, listAt_cl, list3_tup, sl3_tup, sl3_cl, neg3_int, seqI_tup, seqI_cl, zip3_tup, chain_t, chain_f, Option.bind_some, List.map_cons, List.map_nil, List.length_cons, List.length_nil, List.length_map, List.length_replicate, List.length_append, List.replicate, List.cons_append, List.nil_append, List.append_nil, Nat.sub_self, List.getElem?_cons_zero, List.getElem?_cons_succ, List.set_cons_zero, List.set_cons_succ, Nat.reduceAdd, Nat.reduceSub, Nat.zero_add, Option.getD_some, Bool.not_true, Bool.not_false, if_true, if_false, ite_true, ite_false, Bool.false_eq_true, reduceIte, decide_eq_true_eq, true_and, and_true]
      exact wk_new hp q
/-! ### the one height -/
def kd (e ks : List Int) : List Int := ks.foldl (fun e k => if k ∈ e then e else e ++ [k]) e
def kdD (e : List Int) : List (Key × D) := e.map fun k => (.inl k, .bl true)
theorem kd_put {e : List Int} {k : Int} : putD (kdD e) (.inl k) (.bl true) = kdD (if k ∈ e then e else e ++ [k]) := by
  have ha : ((kdD e).any fun kv => decide (kv.1 = .inl k)) = decide (k ∈ e) := by
    unfold kdD
    rw [List.any_map]
    rw [Bool.eq_iff_iff, List.any_eq_true, decide_eq_true_eq]
    constructor
    · rintro ⟨x, hx, h⟩
      simp only [Function.comp, decide_eq_true_eq] at h
      rw [← Sum.inl.inj h]; exact hx
    · intro h
      exact ⟨k, h, by simp⟩
  unfold putD
  rw [ha]
  by_cases c : k ∈ e
  · rw [if_pos (decide_eq_true c), if_pos c]
    unfold kdD
    rw [List.map_map]
    refine List.map_congr_left fun x _ => ?_
    simp only [Function.comp]
    split <;> rfl
  · rw [if_neg (by simpa using c), if_neg c]
    unfold kdD; rw [List.map_append]; rfl
theorem kd_pre {ks e : List Int} : ∃ r, kd e ks = e ++ r := by
  unfold kd
  induction ks generalizing e with
  | nil => exact ⟨[], by simp⟩
  | cons k ks ih =>
    rw [List.foldl_cons]
    split
    · exact ih
    · obtain ⟨r, hr⟩ := ih (e := e ++ [k])
      exact ⟨[k] ++ r, by rw [hr, List.append_assoc]⟩
theorem kd_mem {ks e : List Int} {x : Int} : x ∈ kd e ks ↔ x ∈ e ∨ x ∈ ks := by
  unfold kd
  induction ks generalizing e with
  | nil => simp
  | cons k ks ih =>
    rw [List.foldl_cons, ih]
    split
    · rename_i h
      constructor
      · rintro (a | a)
        · exact .inl a
        · exact .inr (List.mem_cons_of_mem _ a)
      · rintro (a | a)
        · exact .inl a
        · rcases List.mem_cons.mp a with rfl | a
          · exact .inl h
          · exact .inr a
    · rw [List.mem_append, List.mem_singleton, List.mem_cons, or_assoc]
theorem kd_len {ks e : List Int} : (kd e ks).length ≤ e.length + ks.length := by
  unfold kd
  induction ks generalizing e with
  | nil => simp
  | cons k ks ih =>
    rw [List.foldl_cons, List.length_cons]
    split
    · have := ih (e := e); omega
    · have := ih (e := e ++ [k]); rw [List.length_append, List.length_singleton] at this; omega
def clk : List Int → D
  | [] => .non
  | h :: t => if minI (h :: t) = maxI (h :: t) then .int h else .non
theorem clk_cons {h : Int} {t : List Int} : clk (h :: t) = if minI (h :: t) = maxI (h :: t) then .int h else .non := rfl
theorem kd_one {h : Int} {t : List Int} : (kd [] (h :: t)).length = 1 ↔ minI (h :: t) = maxI (h :: t) := by
  have e : kd [] (h :: t) = kd [h] t := by unfold kd; rw [List.foldl_cons]; simp
  rw [e]
  constructor
  · intro hl
    obtain ⟨r, hr⟩ := kd_pre (e := [h]) (ks := t)
    rw [hr] at hl
    have r0 : r = [] := by cases r with
      | nil => rfl
      | cons _ _ => simp at hl
    have all : ∀ x ∈ h :: t, x = h := by
      intro x hx
      have := kd_mem (e := [h]) (ks := t) (x := x)
      rw [hr, r0] at this
      simp only [List.append_nil, List.mem_singleton] at this
      rcases List.mem_cons.mp hx with hx | hx
      · exact hx
      · exact this.mpr (.inr hx)
    rw [all _ (minI_mem (by simp)), all _ (maxI_mem (by simp))]
  · intro hm
    have all : ∀ x ∈ t, x = h := by
      intro x hx
      have a1 := minI_le (l := h :: t) (List.mem_cons_of_mem _ hx)
      have a2 := le_maxI (l := h :: t) (List.mem_cons_of_mem _ hx)
      have a3 := minI_le (l := h :: t) (y := h) (by simp)
      have a4 := le_maxI (l := h :: t) (y := h) (by simp)
      omega
    have : kd [h] t = [h] := by
      unfold kd
      clear hm e
      induction t with
      | nil => rfl
      | cons k t ih =>
        rw [List.foldl_cons, if_pos (by rw [all k (by simp)]; simp)]
        exact ih fun x hx => all x (List.mem_cons_of_mem _ hx)
    rw [this]; rfl
def hts (w0 w1 : List Int) (mk : Mk) (hour : Int) : List Int := (offs w0 w1 mk).map fun k : Nat => hgt w0 w1 (hour + k)
def sp_clock_height : Sp3 := fun ds M Q => ∃ (w0 w1 : List Int) (mk : Mk) (hour : Int), ds = [whl w0 w1, encM mk, .int hour] ∧ Wh w0 w1 ∧ mk.length ≤ 1000 ∧ Q (clk (hts w0 w1 mk hour)) M
theorem t_clock_height : ∀ ds M Q, sp_clock_height ds M Q → G3.wpSs (b_clock_height sp_fitting_offsets sp_height_at) (rets Q) (st3 n_clock_height.length ds) M := by
  rintro ds M Q ⟨w0, w1, mk, hour, rfl, w, hl, q⟩
  simp only [n_clock_height, b_clock_height, G3.wpSs, G3.wpS, G3.wpE, G3.wpEL, G3.wpO, G3.wpTO, G3.wpT, G3.wpAnd, G3.wpOr, G3.wpAndT, G3.wpOrT, G3.wpI, G3.wpG, G3.wpGs, G3.wipe3, G3.st3, G3.bi3, G3.me3, G3.Me.ty, G3.rets, some3_some, some3_none, atI0, atI1, atI2, atI3, ix3_tup, ix3_cl, getR3_ref, len3_tup, len3_cl, G3.add_int, add_tup, G3.sub_int, G3.mul_int, fdiv_int, G3.mod_int, pow_int, shl_int, aadd_int, asub_int, G3.eq_int, G3.ne_int, G3.lt_int, G3.le_int, G3.gt_int, G3.ge_int, isN_, notN_, inn_, nin_, in3_tup, isNon_int, isNon_non, isNon_tup, isNon_ref, isB3_bl, isI_int, one_, two_, tru_bl, tru_int, tru_non, tru_tup, int3_int, int3_bl, seqAt_tup, listAt_cl, list3_tup, sl3_tup, sl3_cl, neg3_int, seqI_tup, seqI_cl, zip3_tup, chain_t, chain_f, Option.bind_some, List.map_cons, List.map_nil, List.length_cons, List.length_nil, List.length_map, List.length_replicate, List.length_append, List.replicate, List.cons_append, List.nil_append, List.append_nil, Nat.sub_self, List.getElem?_cons_zero, List.getElem?_cons_succ, List.set_cons_zero, List.set_cons_succ, Nat.reduceAdd, Nat.reduceSub, Nat.zero_add, Option.getD_some, Bool.not_true, Bool.not_false, if_true, if_false, ite_true, ite_false, Bool.false_eq_true, reduceIte, decide_eq_true_eq, true_and, and_true]
  refine ⟨w0, w1, mk, rfl, w, hl, ?_⟩
  have ol := offs_len (mk := mk) w
  simp only [encN, G3.wpSs, G3.wpS, G3.wpE, G3.wpEL, G3.wpO, G3.wpTO, G3.wpT, G3.wpAnd, G3.wpOr, G3.wpAndT, G3.wpOrT, G3.wpI, G3.wpG, G3.wpGs, G3.wipe3, G3.st3, G3.bi3, G3.me3, G3.Me.ty, G3.rets, some3_some, some3_none, atI0, atI1, atI2, atI3, ix3_tup, ix3_cl, getR3_ref, len3_tup, len3_cl, G3.add_int, add_tup, G3.sub_int, G3.mul_int, fdiv_int, G3.mod_int, pow_int, shl_int, aadd_int, asub_int, G3.eq_int, G3.ne_int, G3.lt_int, G3.le_int, G3.gt_int, G3.ge_int, isN_, notN_, inn_, nin_, in3_tup, isNon_int, isNon_non, isNon_tup, isNon_ref, isB3_bl, isI_int, one_, two_, tru_bl, tru_int, tru_non, tru_tup, int3_int, int3_bl, seqAt_tup, listAt_cl, list3_tup, sl3_tup, sl3_cl, neg3_int, seqI_tup, seqI_cl, zip3_tup, chain_t, chain_f, Option.bind_some, List.map_cons, List.map_nil, List.length_cons, List.length_nil, List.length_map, List.length_replicate, List.length_append, List.replicate, List.cons_append, List.nil_append, List.append_nil, Nat.sub_self, List.getElem?_cons_zero, List.getElem?_cons_succ, List.set_cons_zero, List.set_cons_succ, Nat.reduceAdd, Nat.reduceSub, Nat.zero_add, Option.getD_some, Bool.not_true, Bool.not_false, if_true, if_false, ite_true, ite_false, Bool.false_eq_true, reduceIte, decide_eq_true_eq, true_and, and_true]
  intro p hp
  refine ⟨fun i acc M' => acc = kdD (kd [] (((offs w0 w1 mk).take i).map fun k : Nat => hgt w0 w1 (hour + k))) ∧ M' = put M p (.dic acc), ⟨rfl, rfl⟩, ?_⟩
  rintro i acc M' ⟨rfl, rfl⟩ hi
  rw [List.length_map] at hi ⊢
  refine ⟨trivial, put_same, fun d hd => ?_, fun ei => ?_⟩
  · rw [List.getElem?_map] at hd
    cases hz : (offs w0 w1 mk)[i]? with
    | none => rw [hz] at hd; cases hd
    | some k =>
      rw [hz] at hd
      cases hd
      simp only [G3.wpSs, G3.wpS, G3.wpE, G3.wpEL, G3.wpO, G3.wpTO, G3.wpT, G3.wpAnd, G3.wpOr, G3.wpAndT, G3.wpOrT, G3.wpI, G3.wpG, G3.wpGs, G3.wipe3, G3.st3, G3.bi3, G3.me3, G3.Me.ty, G3.rets, some3_some, some3_none, atI0, atI1, atI2, atI3, ix3_tup, ix3_cl, getR3_ref, len3_tup, len3_cl, G3.add_int, add_tup, G3.sub_int, G3.mul_int, fdiv_int, G3.mod_int, pow_int, shl_int, aadd_int, asub_int, G3.eq_int, G3.ne_int, G3.lt_int, G3.le_int, G3.gt_int, G3.ge_int, isN_, notN_, inn_, nin_, in3_tup, isNon_int, isNon_non, isNon_tup, isNon_ref, isB3_bl, isI_int, one_, two_, tru_bl, tru_int, tru_non, tru_tup, int3_int, int3_bl, seqAt_tup, listAt_cl, list3_tup, sl3_tup, sl3_cl, neg3_int, seqI_tup, seqI_cl, zip3_tup, chain_t, chain_f, Option.bind_some, List.map_cons, List.map_nil, List.length_cons, List.length_nil, List.length_map, List.length_replicate, List.length_append, List.replicate, List.cons_append, List.nil_append, List.append_nil, Nat.sub_self, List.getElem?_cons_zero, List.getElem?_cons_succ, List.set_cons_zero, List.set_cons_succ, Nat.reduceAdd, Nat.reduceSub, Nat.zero_add, Option.getD_some, Bool.not_true, Bool.not_false, if_true, if_false, ite_true, ite_false, Bool.false_eq_true, reduceIte, decide_eq_true_eq, true_and, and_true]
      refine ⟨w0, w1, _, rfl, w.h0, w.h1, ?_⟩
      refine ⟨?_, put_same, ?_⟩
      · have := kd_len (e := []) (ks := ((offs w0 w1 mk).take i).map fun k : Nat => hgt w0 w1 (hour + k))
        unfold kdD
        rw [List.length_map, sline]
        rw [List.length_map, List.length_take, List.length_nil] at this
        omega
      · rw [kd_put, put_put]
        refine wk.of ⟨?_, rfl⟩
        rw [List.take_add_one, hz, List.map_append]
        unfold kd
        rw [List.foldl_append]; rfl
  · subst ei
    rw [List.take_length]
    refine wk.of ?_
    have e1 : ∀ l, put M p (.dic l) p = some (.dic l) := fun l => put_same
    simp only [len3_dic (e1 _), list3_dic (e1 _), G3.wpSs, G3.wpS, G3.wpE, G3.wpEL, G3.wpO, G3.wpTO, G3.wpT, G3.wpAnd, G3.wpOr, G3.wpAndT, G3.wpOrT, G3.wpI, G3.wpG, G3.wpGs, G3.wipe3, G3.st3, G3.bi3, G3.me3, G3.Me.ty, G3.rets, some3_some, some3_none, atI0, atI1, atI2, atI3, ix3_tup, ix3_cl, getR3_ref, len3_tup, len3_cl, G3.add_int, add_tup, G3.sub_int, G3.mul_int, fdiv_int, G3.mod_int, pow_int, shl_int, aadd_int, asub_int, G3.eq_int, G3.ne_int, G3.lt_int, G3.le_int, G3.gt_int, G3.ge_int, isN_, notN_, inn_, nin_, in3_tup, isNon_int, isNon_non, isNon_tup, isNon_ref, isB3_bl, isI_int, one_, two_, tru_bl, tru_int, tru_non, tru_tup, int3_int, int3_bl, seqAt_tup, listAt_cl, list3_tup, sl3_tup, sl3_cl, neg3_int, seqI_tup, seqI_cl, zip3_tup, chain_t, chain_f, Option.bind_some, List.map_cons, List.map_nil, List.length_cons, List.length_nil, List.length_map, List.length_replicate, List.length_append, List.replicate, List.cons_append, List.nil_append, List.append_nil, Nat.sub_self, List.getElem?_cons_zero, List.getElem?_cons_succ, List.set_cons_zero, List.set_cons_succ, Nat.reduceAdd, Nat.reduceSub, Nat.zero_add, Option.getD_some, Bool.not_true, Bool.not_false, if_true, if_false, ite_true, ite_false, Bool.false_eq_true, reduceIte, decide_eq_true_eq, true_and, and_true]
    have el : ((kdD (kd [] (hts w0 w1 mk hour))).length : Int) = 1 ↔ (kd [] (hts w0 w1 mk hour)).length = 1 := by unfold kdD; rw [List.length_map]; omega
    rw [show ((offs w0 w1 mk).map fun k : Nat => hgt w0 w1 (hour + k)) = hts w0 w1 mk hour from rfl]
    generalize hts w0 w1 mk hour = hs at *
    by_cases c : (kd [] hs).length = 1
    · rw [if_pos (el.mpr c)]
      intro r hr
      rw [ix3_ref put_same]
      cases hs with
      | nil => simp [kd] at c
      | cons h t =>
        have cm := kd_one.mp c
        obtain ⟨rest, hrest⟩ := kd_pre (e := [h]) (ks := t)
        have e2 : kd [] (h :: t) = h :: rest := by
          have : kd [] (h :: t) = kd [h] t := by unfold kd; rw [List.foldl_cons]; simp
          rw [this, hrest]; rfl
        rw [clk_cons, if_pos cm] at q
        have ea : atI ((kdD (kd [] (h :: t))).map fun kv => keyV kv.1) 0 = some (.int h) := by rw [e2]; exact atI0
        rw [ea]
        simp only [some3_some]
        exact wk_sub ((Sub.new hp).trans (.new hr)) q
    · rw [if_neg fun z => c (el.mp z)]
      refine wk_new hp ?_
      cases hs with
      | nil => exact q
      | cons h t =>
        rw [clk_cons, if_neg fun z => c (kd_one.mpr z)] at q
        exact q
end K82
set_option Elab.async false
set_option linter.all false
set_option maxRecDepth 100000
set_option maxHeartbeats 4000000
namespace K82
open G3 L2 G3w
def mkD (m : Int × Int) : D := .tup [.int m.1, .int m.2]
theorem _root_.G3w.Go.put_new {M M' : Mp} {a t : Addr} {o : MO} (g : Go M a M') (h : M t = none) (hta : t ≠ a) : Go M a (put M' t o) := by
  obtain ⟨xs, s⟩ := g
  exact ⟨xs, s.put_free (by rw [put_ne hta]; exact h)⟩
def sp__law_tide_marks : Sp3 := fun ds M Q => ∃ (a : Addr) (xs w0 w1 : List Int) (many : Nat) (few : Int), ds = [.ref a, whl w0 w1, .int many, .int few] ∧ M a = some (.lst (xs.map .int)) ∧ w0 ≠ [] ∧ w1 ≠ [] ∧ many ≤ 100 ∧ 0 < few ∧ ∀ (mk : Mk) (xs' : List Int), mk.length ≤ many → Q (encM mk) (put M a (.lst (xs'.map .int)))
theorem t__law_tide_marks : ∀ ds M Q, sp__law_tide_marks ds M Q → G3.wpSs (b__law_tide_marks sp__law_take sp_height_at sp__law_tide_hour) (rets Q) (st3 n__law_tide_marks.length ds) M := by
  rintro ds M Q ⟨a, xs, w0, w1, many, few, rfl, e, h0, h1, hm, hf, q⟩
  simp only [n__law_tide_marks, r1__law_tide_marks, r2__law_tide_marks, b__law_tide_marks, G3.wpSs, G3.wpS, G3.wpE, G3.wpEL, G3.wpO, G3.wpTO, G3.wpT, G3.wpAnd, G3.wpOr, G3.wpAndT, G3.wpOrT, G3.wpI, G3.wpG, G3.wpGs, G3.wipe3, G3.st3, G3.bi3, G3.me3, G3.Me.ty, G3.rets, some3_some, some3_none, atI0, atI1, atI2, atI3, ix3_tup, ix3_cl, getR3_ref, len3_tup, len3_cl, G3.add_int, add_tup, G3.sub_int, G3.mul_int, fdiv_int, G3.mod_int, pow_int, shl_int, aadd_int, asub_int, G3.eq_int, G3.ne_int, G3.lt_int, G3.le_int, G3.gt_int, G3.ge_int, isN_, notN_, inn_, nin_, in3_tup, isNon_int, isNon_non, isNon_tup, isNon_ref, isB3_bl, isI_int, one_, two_, tru_bl, tru_int, tru_non, tru_tup, int3_int, int3_bl, seqAt_tup, listAt_cl, list3_tup, sl3_tup, sl3_cl, neg3_int, seqI_tup, seqI_cl, zip3_tup, chain_t, chain_f, Option.bind_some, List.map_cons, List.map_nil, List.length_cons, List.length_nil, List.length_map, List.length_replicate, List.length_append, List.replicate, List.cons_append, List.nil_append, List.append_nil, Nat.sub_self, List.getElem?_cons_zero, List.getElem?_cons_succ, List.set_cons_zero, List.set_cons_succ, Nat.reduceAdd, Nat.reduceSub, Nat.zero_add, Option.getD_some, Bool.not_true, Bool.not_false, if_true, if_false, ite_true, ite_false, Bool.false_eq_true, reduceIte, decide_eq_true_eq, true_and, and_true]
  intro t ht
  have hta := Go.ne e ht
  refine take_step (put_keep e ht) (by omega) fun n xs1 n0 n1 => ?_
  obtain ⟨n, rfl⟩ := Int.eq_ofNat_of_zero_le n0
  refine ⟨by omega, by omega, ?_⟩
  rw [Int.toNat_natCast]
  refine ⟨fun i τ M' => ∃ (mk : Mk) (y5 y6 : Option D), τ = [some (.ref a), some (whl w0 w1), some (.int many), some (.int few), some (.ref t), y5, y6] ∧ M' t = some (.lst (mk.map mkD)) ∧ mk.length = i ∧ Go M a M', ⟨[], _, _, rfl, ?_, rfl, ?_⟩, ?_⟩
  · rw [put_ne hta, put_same]; rfl
  · exact ((Go.refl e).put_new ht hta).put xs1
  rintro i τ M' ⟨mk, y5, y6, rfl, et, hi', go⟩ hi
  rw [rgD_length] at hi ⊢
  refine ⟨trivial, fun d hd => ?_, fun ei => ?_⟩
  · obtain ⟨hi2, rfl⟩ := rgD_get hd
    obtain ⟨xs2, e2⟩ := go.at
    have kl : ((0 : Int) + (i : Nat) * 1) = i := by omega
    have fin : ∀ (hour : Int) (M4 : Mp), M4 t = some (.lst (mk.map mkD)) → Go M a M4 → ∀ (y5 : D), isTyM "list" (.ref t) M4 ∧ sp_height_at [whl w0 w1, .int hour] M4 fun d M1 => refL (.ref t) M1 fun p l => l.length < PySem.sizeLine ∧ wk (fun M' => ∃ (mk : Mk) (z5 z6 : Option D), [some (.ref a), some (whl w0 w1), some (.int many), some (.int few), some (.ref t), some y5, some (.int hour)] = [some (.ref a), some (whl w0 w1), some (.int many), some (.int few), some (.ref t), z5, z6] ∧ M' t = some (.lst (mk.map mkD)) ∧ mk.length = i + 1 ∧ Go M a M') (put M1 p (.lst (l ++ [.tup [.int hour, d]]))) := by
      intro hour M4 e4 g4 y5
      refine ⟨by rw [isTyM_ref e4], w0, w1, hour, rfl, h0, h1, ?_⟩
      simp only [refL_ref e4, List.length_map]
      refine ⟨by rw [sline]; omega, wk.of ⟨mk ++ [(hour, hgt w0 w1 hour)], _, _, rfl, ?_, ?_, g4.put_new ht hta⟩⟩
      · rw [put_same, List.map_append]; rfl
      · rw [List.length_append, hi']; rfl
    simp only [kl, G3.wpSs, G3.wpS, G3.wpE, G3.wpEL, G3.wpO, G3.wpTO, G3.wpT, G3.wpAnd, G3.wpOr, G3.wpAndT, G3.wpOrT, G3.wpI, G3.wpG, G3.wpGs, G3.wipe3, G3.st3, G3.bi3, G3.me3, G3.Me.ty, G3.rets, some3_some, some3_none, atI0, atI1, atI2, atI3, ix3_tup, ix3_cl, getR3_ref, len3_tup, len3_cl, G3.add_int, add_tup, G3.sub_int, G3.mul_int, fdiv_int, G3.mod_int, pow_int, shl_int, aadd_int, asub_int, G3.eq_int, G3.ne_int, G3.lt_int, G3.le_int, G3.gt_int, G3.ge_int, isN_, notN_, inn_, nin_, in3_tup, isNon_int, isNon_non, isNon_tup, isNon_ref, isB3_bl, isI_int, one_, two_, tru_bl, tru_int, tru_non, tru_tup, int3_int, int3_bl, seqAt_tup, listAt_cl, list3_tup, sl3_tup, sl3_cl, neg3_int, seqI_tup, seqI_cl, zip3_tup, chain_t, chain_f, Option.bind_some, List.map_cons, List.map_nil, List.length_cons, List.length_nil, List.length_map, List.length_replicate, List.length_append, List.replicate, List.cons_append, List.nil_append, List.append_nil, Nat.sub_self, List.getElem?_cons_zero, List.getElem?_cons_succ, List.set_cons_zero, List.set_cons_succ, Nat.reduceAdd, Nat.reduceSub, Nat.zero_add, Option.getD_some, Bool.not_true, Bool.not_false, if_true, if_false, ite_true, ite_false, Bool.false_eq_true, reduceIte, decide_eq_true_eq, true_and, and_true]
    refine hour_step e2 hf fun hour xs3 => ?_
    have et3 : put M' a (.lst (xs3.map .int)) t = some (.lst (mk.map mkD)) := by rw [put_ne hta]; exact et
    have go3 := go.put xs3
    have e3 := put_same (M := M') (a := a) (o := .lst (xs3.map .int))
    generalize put M' a (.lst (xs3.map .int)) = M4 at *
    by_cases c : 0 < (i : Int)
    · rw [if_pos c]
      refine take_step e3 (by decide) fun r xs4 _ _ => ?_
      have et4 : put M4 a (.lst (xs4.map .int)) t = some (.lst (mk.map mkD)) := by rw [put_ne hta]; exact et3
      have go4 := go3.put xs4
      have e4 := put_same (M := M4) (a := a) (o := .lst (xs4.map .int))
      generalize put M4 a (.lst (xs4.map .int)) = M5 at *
      simp only [G3.wpSs, G3.wpS, G3.wpE, G3.wpEL, G3.wpO, G3.wpTO, G3.wpT, G3.wpAnd, G3.wpOr, G3.wpAndT, G3.wpOrT, G3.wpI, G3.wpG, G3.wpGs, G3.wipe3, G3.st3, G3.bi3, G3.me3, G3.Me.ty, G3.rets, some3_some, some3_none, atI0, atI1, atI2, atI3, ix3_tup, ix3_cl, getR3_ref, len3_tup, len3_cl, G3.add_int, add_tup, G3.sub_int, G3.mul_int, fdiv_int, G3.mod_int, pow_int, shl_int, aadd_int, asub_int, G3.eq_int, G3.ne_int, G3.lt_int, G3.le_int, G3.gt_int, G3.ge_int, isN_, notN_, inn_, nin_, in3_tup, isNon_int, isNon_non, isNon_tup, isNon_ref, isB3_bl, isI_int, one_, two_, tru_bl, tru_int, tru_non, tru_tup, int3_int, int3_bl, seqAt_tup, listAt_cl, list3_tup, sl3_tup, sl3_cl, neg3_int, seqI_tup, seqI_cl, zip3_tup, chain_t, chain_f, Option.bind_some, List.map_cons, List.map_nil, List.length_cons, List.length_nil, List.length_map, List.length_replicate, List.length_append, List.replicate, List.cons_append, List.nil_append, List.append_nil, Nat.sub_self, List.getElem?_cons_zero, List.getElem?_cons_succ, List.set_cons_zero, List.set_cons_succ, Nat.reduceAdd, Nat.reduceSub, Nat.zero_add, Option.getD_some, Bool.not_true, Bool.not_false, if_true, if_false, ite_true, ite_false, Bool.false_eq_true, reduceIte, decide_eq_true_eq, true_and, and_true]
      by_cases c2 : r = 0
      · rw [if_pos c2]
        refine take_step e4 c fun r2 xs5 r0 r1 => ?_
        have et5 : put M5 a (.lst (xs5.map .int)) t = some (.lst (mk.map mkD)) := by rw [put_ne hta]; exact et4
        have go5 := go4.put xs5
        rw [ix3_ref et5, atI_some r0 (by rw [List.length_map]; omega), some3_some]
        simp only [List.getElem_map, mkD, G3.wpSs, G3.wpS, G3.wpE, G3.wpEL, G3.wpO, G3.wpTO, G3.wpT, G3.wpAnd, G3.wpOr, G3.wpAndT, G3.wpOrT, G3.wpI, G3.wpG, G3.wpGs, G3.wipe3, G3.st3, G3.bi3, G3.me3, G3.Me.ty, G3.rets, some3_some, some3_none, atI0, atI1, atI2, atI3, ix3_tup, ix3_cl, getR3_ref, len3_tup, len3_cl, G3.add_int, add_tup, G3.sub_int, G3.mul_int, fdiv_int, G3.mod_int, pow_int, shl_int, aadd_int, asub_int, G3.eq_int, G3.ne_int, G3.lt_int, G3.le_int, G3.gt_int, G3.ge_int, isN_, notN_, inn_, nin_, in3_tup, isNon_int, isNon_non, isNon_tup, isNon_ref, isB3_bl, isI_int, one_, two_, tru_bl, tru_int, tru_non, tru_tup, int3_int, int3_bl, seqAt_tup, listAt_cl, list3_tup, sl3_tup, sl3_cl, neg3_int, seqI_tup, seqI_cl, zip3_tup, chain_t, chain_f, Option.bind_some, List.map_cons, List.map_nil, List.length_cons, List.length_nil, List.length_map, List.length_replicate, List.length_append, List.replicate, List.cons_append, List.nil_append, List.append_nil, Nat.sub_self, List.getElem?_cons_zero, List.getElem?_cons_succ, List.set_cons_zero, List.set_cons_succ, Nat.reduceAdd, Nat.reduceSub, Nat.zero_add, Option.getD_some, Bool.not_true, Bool.not_false, if_true, if_false, ite_true, ite_false, Bool.false_eq_true, reduceIte, decide_eq_true_eq, true_and, and_true]
        exact fin _ _ et5 go5 _
      · rw [if_neg c2]
        exact fin _ _ et4 go4 _
    · rw [if_neg c]
      exact fin _ _ et3 go3 _
  · refine wk.of ?_
    simp only [seqAt_ref et, G3.wpSs, G3.wpS, G3.wpE, G3.wpEL, G3.wpO, G3.wpTO, G3.wpT, G3.wpAnd, G3.wpOr, G3.wpAndT, G3.wpOrT, G3.wpI, G3.wpG, G3.wpGs, G3.wipe3, G3.st3, G3.bi3, G3.me3, G3.Me.ty, G3.rets, some3_some, some3_none, atI0, atI1, atI2, atI3, ix3_tup, ix3_cl, getR3_ref, len3_tup, len3_cl, G3.add_int, add_tup, G3.sub_int, G3.mul_int, fdiv_int, G3.mod_int, pow_int, shl_int, aadd_int, asub_int, G3.eq_int, G3.ne_int, G3.lt_int, G3.le_int, G3.gt_int, G3.ge_int, isN_, notN_, inn_, nin_, in3_tup, isNon_int, isNon_non, isNon_tup, isNon_ref, isB3_bl, isI_int, one_, two_, tru_bl, tru_int, tru_non, tru_tup, int3_int, int3_bl, seqAt_tup, listAt_cl, list3_tup, sl3_tup, sl3_cl, neg3_int, seqI_tup, seqI_cl, zip3_tup, chain_t, chain_f, Option.bind_some, List.map_cons, List.map_nil, List.length_cons, List.length_nil, List.length_map, List.length_replicate, List.length_append, List.replicate, List.cons_append, List.nil_append, List.append_nil, Nat.sub_self, List.getElem?_cons_zero, List.getElem?_cons_succ, List.set_cons_zero, List.set_cons_succ, Nat.reduceAdd, Nat.reduceSub, Nat.zero_add, Option.getD_some, Bool.not_true, Bool.not_false, if_true, if_false, ite_true, ite_false, Bool.false_eq_true, reduceIte, decide_eq_true_eq, true_and, and_true]
    obtain ⟨xs', sb⟩ := go
    exact wk_sub sb (q mk xs' (by omega))
/-! ### the law's own look at periods -/
/-- new places: each as far from its root as wheels have it -/
def New (p q : Nat) (mk : Mk) (r : Int) (e0 e : List (Int × Int)) : Prop := ∀ W : Int → Int, (∀ m ∈ mk, W (m.1 % p) + W (p + m.1 % q) = m.2) → ∀ x v, getI e0 x = none → getI e x = some v → (if x < p then v else -v) = sv p W x - sv p W r
structure Nw (p q : Nat) (mk : Mk) (r : Int) (e0 e : List (Int × Int)) : Prop where
  old : ∀ x v, getI e0 x = some v → getI e x = some v
  new : New p q mk r e0 e
  size : e.length + cnt p q mk e ≤ 10000
/-- behind some roots: what is known fits, and is closed -/
structure Ok (p q : Nat) (mk : Mk) (e : List (Int × Int)) : Prop where
  cl : Closed p q mk e
  fit : Fits p q mk → ∀ m ∈ mk, ∀ va vb, getI e (m.1 % p) = some va → getI e (p + m.1 % q) = some vb → va + vb = m.2
  size : e.length + cnt p q mk e ≤ 10000
theorem Nw.stepB {p q : Nat} (hp : 0 < p) (hq : 0 < q) {mk : Mk} {r : Int} {e0 e : List (Int × Int)} (c0 : Closed p q mk e0) (k : Nw p q mk r e0 e) {m : Int × Int} (hm : m ∈ mk) {v : Int} (ha : getI e (m.1 % p) = some v) (hb : getI e (p + m.1 % q) = none) : Nw p q mk r e0 (putI e (p + m.1 % q) (m.2 - v)) := by
  refine ⟨fun x u hx => ?_, fun W hW x u h0 hx => ?_, ?_⟩
  · rw [get_put]
    split
    · rename_i c
      subst c
      have := k.old _ _ hx
      rw [hb] at this; cases this
    · exact k.old x u hx
  · rw [get_put] at hx
    split at hx
    · rename_i c
      subst c
      have ha0 : getI e0 (m.1 % p) = none := by
        have := c0 m hm
        rw [h0] at this
        cases z : getI e0 (m.1 % p) with
        | none => rfl
        | some _ => rw [z] at this; cases this
      have e1 := k.new W hW _ _ ha0 ha
      have e3 := hW m hm
      have : u = m.2 - v := (Option.some.inj hx).symm
      rw [if_pos (aLt hp _)] at e1
      rw [if_neg (bGe hq _)]
      have s1 : sv p W (m.1 % p) = W (m.1 % p) := if_pos (aLt hp _)
      have s2 : sv p W (p + m.1 % q) = -W (p + m.1 % q) := if_neg (bGe hq _)
      rw [s1] at e1
      rw [s2]
      omega
    · exact k.new W hW x u h0 hx
  · have := k.size; have := cnt_lt (v := m.2 - v) (pl_b (p := p) (q := q) hm) hb; rw [put_len hb]; omega
theorem Nw.stepA {p q : Nat} (hp : 0 < p) (hq : 0 < q) {mk : Mk} {r : Int} {e0 e : List (Int × Int)} (c0 : Closed p q mk e0) (k : Nw p q mk r e0 e) {m : Int × Int} (hm : m ∈ mk) {v : Int} (hb : getI e (p + m.1 % q) = some v) (ha : getI e (m.1 % p) = none) : Nw p q mk r e0 (putI e (m.1 % p) (m.2 - v)) := by
  refine ⟨fun x u hx => ?_, fun W hW x u h0 hx => ?_, ?_⟩
  · rw [get_put]
    split
    · rename_i c
      subst c
      have := k.old _ _ hx
      rw [ha] at this; cases this
    · exact k.old x u hx
  · rw [get_put] at hx
    split at hx
    · rename_i c
      subst c
      have hb0 : getI e0 (p + m.1 % q) = none := by
        have := c0 m hm
        rw [h0] at this
        cases z : getI e0 (p + m.1 % q) with
        | none => rfl
        | some _ => rw [z] at this; cases this
      have e1 := k.new W hW _ _ hb0 hb
      have e3 := hW m hm
      have : u = m.2 - v := (Option.some.inj hx).symm
      rw [if_neg (bGe hq _)] at e1
      rw [if_pos (aLt hp _)]
      have s1 : sv p W (m.1 % p) = W (m.1 % p) := if_pos (aLt hp _)
      have s2 : sv p W (p + m.1 % q) = -W (p + m.1 % q) := if_neg (bGe hq _)
      rw [s2] at e1
      rw [s1]
      omega
    · exact k.new W hW x u h0 hx
  · have := k.size; have := cnt_lt (v := m.2 - v) (pl_a (p := p) (q := q) hm) ha; rw [put_len ha]; omega
theorem Ok.next {p q : Nat} (hp : 0 < p) (hq : 0 < q) {mk : Mk} {r : Int} {e0 e : List (Int × Int)} (o : Ok p q mk e0) (k : Nw p q mk r e0 e) (c : Closed p q mk e) : Ok p q mk e := by
  refine ⟨c, fun f m hm va vb ha hb => ?_, k.size⟩
  have hc := o.cl m hm
  cases z : getI e0 (m.1 % p) with
  | some va' =>
    rw [z] at hc
    obtain ⟨vb', hb'⟩ := Option.isSome_iff_exists.mp hc.symm
    have h1 := k.old _ _ z
    have h2 := k.old _ _ hb'
    rw [ha] at h1; rw [hb] at h2
    cases h1; cases h2
    exact o.fit f m hm _ _ z hb'
  | none =>
    rw [z] at hc
    have hb0 : getI e0 (p + m.1 % q) = none := by
      cases y : getI e0 (p + m.1 % q) with
      | none => rfl
      | some _ => rw [y] at hc; cases hc
    obtain ⟨W, hW⟩ := f
    have e1 := k.new W hW _ _ z ha
    have e2 := k.new W hW _ _ hb0 hb
    have e3 := hW m hm
    rw [if_pos (aLt hp _)] at e1
    rw [if_neg (bGe hq _)] at e2
    have s1 : sv p W (m.1 % p) = W (m.1 % p) := if_pos (aLt hp _)
    have s2 : sv p W (p + m.1 % q) = -W (p + m.1 % q) := if_neg (bGe hq _)
    rw [s1] at e1
    rw [s2] at e2
    omega
end K82
set_option Elab.async false
set_option linter.all false
set_option maxRecDepth 100000
set_option maxHeartbeats 4000000
namespace K82
open G3 L2 G3w
theorem inF_bls {bs : List Bool} : inF (.bl false) (bs.map .bl) = !bs.all id := by
  unfold inF
  induction bs with
  | nil => rfl
  | cons b bs ih =>
    rw [List.map_cons, List.any_cons, ih, List.all_cons]
    cases b <;> simp [eqF]
theorem flat_bls {bs : List Bool} : (bs.map D.bl).all flatD = true := by
  rw [List.all_map, List.all_eq_true]
  intro x _; rfl
def sp__law_pair_fits : Sp3 := fun ds M Q => ∃ (p q : Nat) (mk : Mk), ds = [.int p, .int q, encM mk] ∧ 0 < p ∧ 0 < q ∧ p ≤ 100 ∧ q ≤ 100 ∧ mk.length ≤ 1000 ∧ Q (.bl (fitsB p q mk)) M
def pfS (p q : Nat) (mk : Mk) (k : Addr) (a b c d e f g h i : Option D) : S3 := [some (.int p), some (.int q), some (encM mk), some (.ref k), a, b, c, d, e, f, g, h, i]
theorem t__law_pair_fits : ∀ ds M Q, sp__law_pair_fits ds M Q → G3.wpSs b__law_pair_fits (rets Q) (st3 n__law_pair_fits.length ds) M := by
  rintro ds M Q ⟨p, q, mk, rfl, hp, hq, p1, q1, hl, hQ⟩
  simp only [b__law_pair_fits, n__law_pair_fits, encM, G3.wpSs, G3.wpS, G3.wpE, G3.wpEL, G3.wpO, G3.wpTO, G3.wpT, G3.wpAnd, G3.wpOr, G3.wpAndT, G3.wpOrT, G3.wpI, G3.wpG, G3.wpGs, G3.wipe3, G3.st3, G3.bi3, G3.me3, G3.Me.ty, G3.rets, some3_some, some3_none, atI0, atI1, atI2, atI3, ix3_tup, ix3_cl, getR3_ref, len3_tup, len3_cl, G3.add_int, add_tup, G3.sub_int, G3.mul_int, fdiv_int, G3.mod_int, pow_int, shl_int, aadd_int, asub_int, G3.eq_int, G3.ne_int, G3.lt_int, G3.le_int, G3.gt_int, G3.ge_int, isN_, notN_, inn_, nin_, in3_tup, isNon_int, isNon_non, isNon_tup, isNon_ref, isB3_bl, isI_int, one_, two_, tru_bl, tru_int, tru_non, tru_tup, int3_int, int3_bl, seqAt_tup, listAt_cl, list3_tup, sl3_tup, sl3_cl, neg3_int, seqI_tup, seqI_cl, zip3_tup, chain_t, chain_f, Option.bind_some, List.map_cons, List.map_nil, List.length_cons, List.length_nil, List.length_map, List.length_replicate, List.length_append, List.replicate, List.cons_append, List.nil_append, List.append_nil, Nat.sub_self, List.getElem?_cons_zero, List.getElem?_cons_succ, List.set_cons_zero, List.set_cons_succ, Nat.reduceAdd, Nat.reduceSub, Nat.zero_add, Option.getD_some, Bool.not_true, Bool.not_false, if_true, if_false, ite_true, ite_false, Bool.false_eq_true, reduceIte, decide_eq_true_eq, true_and, and_true]
  intro k hk
  have ek := put_same (M := M) (a := k) (o := .dic [])
  have sb0 := Sub.new (o := .dic []) hk
  generalize put M k (.dic []) = M1 at *
  refine ⟨fun i τ M' => ∃ (e : List (Int × Int)) (a b c d f g h j l : Option D), τ = pfS p q mk k a b c d f g h j l ∧ M' k = some (.dic (encD e)) ∧ Ok p q mk e ∧ Sub M M' ∧ ∀ m ∈ mk.take i, (getI e (m.1 % p)).isSome = true, ⟨[], _, _, _, _, _, _, _, _, _, rfl, ek, ⟨fun m _ => rfl, fun _ m _ va vb h => (by cases h), ?_⟩, sb0, fun m hm => by simp at hm⟩, ?_⟩
  · have := cnt_le (p := p) (q := q) (mk := mk) (e := [])
    simp only [List.length_nil]; omega
  rintro i τ M2 ⟨e0, a, b, c, d, f, g, h, j, l, rfl, e2, ok0, sb2, pr⟩ hi
  rw [List.length_map] at hi ⊢
  refine ⟨trivial, fun dd hd => ?_, fun ei => ?_⟩
  · rw [List.getElem?_map] at hd
    cases hz : mk[i]? with
    | none => rw [hz] at hd; cases hd
    | some rt =>
      rw [hz] at hd
      cases hd
      have hrt := List.mem_of_getElem? hz
      have take1 : mk.take (i + 1) = mk.take i ++ [rt] := by rw [List.take_add_one, hz]; rfl
      have hsz : ∀ {e : List (Int × Int)}, e.length + cnt p q mk e ≤ 10000 → (encD e).length < PySem.sizeLine := fun h => by rw [enc_len, sline]; omega
      simp only [pfS, nin_, in3_dic e2, getK_enc, Option.isSome_map, G3.wpSs, G3.wpS, G3.wpE, G3.wpEL, G3.wpO, G3.wpTO, G3.wpT, G3.wpAnd, G3.wpOr, G3.wpAndT, G3.wpOrT, G3.wpI, G3.wpG, G3.wpGs, G3.wipe3, G3.st3, G3.bi3, G3.me3, G3.Me.ty, G3.rets, some3_some, some3_none, atI0, atI1, atI2, atI3, ix3_tup, ix3_cl, getR3_ref, len3_tup, len3_cl, G3.add_int, add_tup, G3.sub_int, G3.mul_int, fdiv_int, G3.mod_int, pow_int, shl_int, aadd_int, asub_int, G3.eq_int, G3.ne_int, G3.lt_int, G3.le_int, G3.gt_int, G3.ge_int, isN_, notN_, inn_, nin_, in3_tup, isNon_int, isNon_non, isNon_tup, isNon_ref, isB3_bl, isI_int, one_, two_, tru_bl, tru_int, tru_non, tru_tup, int3_int, int3_bl, seqAt_tup, listAt_cl, list3_tup, sl3_tup, sl3_cl, neg3_int, seqI_tup, seqI_cl, zip3_tup, chain_t, chain_f, Option.bind_some, List.map_cons, List.map_nil, List.length_cons, List.length_nil, List.length_map, List.length_replicate, List.length_append, List.replicate, List.cons_append, List.nil_append, List.append_nil, Nat.sub_self, List.getElem?_cons_zero, List.getElem?_cons_succ, List.set_cons_zero, List.set_cons_succ, Nat.reduceAdd, Nat.reduceSub, Nat.zero_add, Option.getD_some, Bool.not_true, Bool.not_false, if_true, if_false, ite_true, ite_false, Bool.false_eq_true, reduceIte, decide_eq_true_eq, true_and, and_true]
      refine ⟨by omega, ?_⟩
      cases ha : getI e0 (rt.1 % p) with
      | some v =>
        simp only [Option.isSome_some, G3.wpSs, G3.wpS, G3.wpE, G3.wpEL, G3.wpO, G3.wpTO, G3.wpT, G3.wpAnd, G3.wpOr, G3.wpAndT, G3.wpOrT, G3.wpI, G3.wpG, G3.wpGs, G3.wipe3, G3.st3, G3.bi3, G3.me3, G3.Me.ty, G3.rets, some3_some, some3_none, atI0, atI1, atI2, atI3, ix3_tup, ix3_cl, getR3_ref, len3_tup, len3_cl, G3.add_int, add_tup, G3.sub_int, G3.mul_int, fdiv_int, G3.mod_int, pow_int, shl_int, aadd_int, asub_int, G3.eq_int, G3.ne_int, G3.lt_int, G3.le_int, G3.gt_int, G3.ge_int, isN_, notN_, inn_, nin_, in3_tup, isNon_int, isNon_non, isNon_tup, isNon_ref, isB3_bl, isI_int, one_, two_, tru_bl, tru_int, tru_non, tru_tup, int3_int, int3_bl, seqAt_tup, listAt_cl, list3_tup, sl3_tup, sl3_cl, neg3_int, seqI_tup, seqI_cl, zip3_tup, chain_t, chain_f, Option.bind_some, List.map_cons, List.map_nil, List.length_cons, List.length_nil, List.length_map, List.length_replicate, List.length_append, List.replicate, List.cons_append, List.nil_append, List.append_nil, Nat.sub_self, List.getElem?_cons_zero, List.getElem?_cons_succ, List.set_cons_zero, List.set_cons_succ, Nat.reduceAdd, Nat.reduceSub, Nat.zero_add, Option.getD_some, Bool.not_true, Bool.not_false, if_true, if_false, ite_true, ite_false, Bool.false_eq_true, reduceIte, decide_eq_true_eq, true_and, and_true]
        refine wk.of ⟨e0, _, _, _, _, _, _, _, _, _, rfl, e2, ok0, sb2, fun m hm => ?_⟩
        rw [take1] at hm
        rcases List.mem_append.mp hm with hm | hm
        · exact pr m hm
        · rw [List.mem_singleton] at hm; subst hm; rw [ha]; rfl
      | none =>
        simp only [Option.isSome_none, set3_dic e2, putD_enc, encM, List.length_map, G3.wpSs, G3.wpS, G3.wpE, G3.wpEL, G3.wpO, G3.wpTO, G3.wpT, G3.wpAnd, G3.wpOr, G3.wpAndT, G3.wpOrT, G3.wpI, G3.wpG, G3.wpGs, G3.wipe3, G3.st3, G3.bi3, G3.me3, G3.Me.ty, G3.rets, some3_some, some3_none, atI0, atI1, atI2, atI3, ix3_tup, ix3_cl, getR3_ref, len3_tup, len3_cl, G3.add_int, add_tup, G3.sub_int, G3.mul_int, fdiv_int, G3.mod_int, pow_int, shl_int, aadd_int, asub_int, G3.eq_int, G3.ne_int, G3.lt_int, G3.le_int, G3.gt_int, G3.ge_int, isN_, notN_, inn_, nin_, in3_tup, isNon_int, isNon_non, isNon_tup, isNon_ref, isB3_bl, isI_int, one_, two_, tru_bl, tru_int, tru_non, tru_tup, int3_int, int3_bl, seqAt_tup, listAt_cl, list3_tup, sl3_tup, sl3_cl, neg3_int, seqI_tup, seqI_cl, zip3_tup, chain_t, chain_f, Option.bind_some, List.map_cons, List.map_nil, List.length_cons, List.length_nil, List.length_map, List.length_replicate, List.length_append, List.replicate, List.cons_append, List.nil_append, List.append_nil, Nat.sub_self, List.getElem?_cons_zero, List.getElem?_cons_succ, List.set_cons_zero, List.set_cons_succ, Nat.reduceAdd, Nat.reduceSub, Nat.zero_add, Option.getD_some, Bool.not_true, Bool.not_false, if_true, if_false, ite_true, ite_false, Bool.false_eq_true, reduceIte, decide_eq_true_eq, true_and, and_true]
        refine ⟨by omega, hsz ok0.size, MulOk_small (by omega) (by omega), by omega, by omega, ?_⟩
        have e3 := put_same (M := M2) (a := k) (o := .dic (encD (putI e0 (rt.1 % p) 0)))
        have sb3 := sb2.put_free (o := .dic (encD (putI e0 (rt.1 % p) 0))) hk
        generalize put M2 k (.dic (encD (putI e0 (rt.1 % p) 0))) = M3 at *
        have nw0 : Nw p q mk (rt.1 % p) e0 (putI e0 (rt.1 % p) 0) := by
          refine ⟨fun x u hx => ?_, fun W hW x u h0 hx => ?_, ?_⟩
          · rw [get_put]; split
            · rename_i c; subst c; rw [ha] at hx; cases hx
            · exact hx
          · rw [get_put] at hx
            split at hx
            · rename_i c; subst c; cases hx; split <;> omega
            · rw [h0] at hx; cases hx
          · have := ok0.size; have := cnt_lt (v := 0) (pl_a (p := p) (q := q) hrt) ha; rw [put_len ha]; omega
        have et : (2 * (mk.length : Int)).toNat = 2 * mk.length := by omega
        rw [et]
        refine ⟨fun t τ M' => ∃ (e : List (Int × Int)) (c d f g h j l : Option D), τ = pfS p q mk k (some (.int rt.1)) (some (.int rt.2)) c d f g h j l ∧ M' k = some (.dic (encD e)) ∧ Nw p q mk (rt.1 % p) e0 e ∧ Sub M M' ∧ cnt p q mk e + t + 1 ≤ 2 * mk.length ∧ (getI e (rt.1 % p)).isSome = true, ⟨_, c, d, f, g, h, j, l, rfl, e3, nw0, sb3, ?_, by rw [get_put, if_pos rfl]; rfl⟩, ?_⟩
        · have := cnt_lt (v := 0) (pl_a (p := p) (q := q) hrt) ha
          have := cnt_le (p := p) (q := q) (mk := mk) (e := e0)
          omega
        rintro t τ M4 ⟨e1, c, d, f, g, h, j, l, rfl, e4, nw1, sb4, hc1, kr⟩ ht
        rw [rgD_length] at ht ⊢
        refine ⟨trivial, fun dd hd => ?_, fun et2 => by omega⟩
        obtain ⟨ht2, rfl⟩ := rgD_get hd
        simp only [pfS, len3_dic e4, encM, enc_len, G3.wpSs, G3.wpS, G3.wpE, G3.wpEL, G3.wpO, G3.wpTO, G3.wpT, G3.wpAnd, G3.wpOr, G3.wpAndT, G3.wpOrT, G3.wpI, G3.wpG, G3.wpGs, G3.wipe3, G3.st3, G3.bi3, G3.me3, G3.Me.ty, G3.rets, some3_some, some3_none, atI0, atI1, atI2, atI3, ix3_tup, ix3_cl, getR3_ref, len3_tup, len3_cl, G3.add_int, add_tup, G3.sub_int, G3.mul_int, fdiv_int, G3.mod_int, pow_int, shl_int, aadd_int, asub_int, G3.eq_int, G3.ne_int, G3.lt_int, G3.le_int, G3.gt_int, G3.ge_int, isN_, notN_, inn_, nin_, in3_tup, isNon_int, isNon_non, isNon_tup, isNon_ref, isB3_bl, isI_int, one_, two_, tru_bl, tru_int, tru_non, tru_tup, int3_int, int3_bl, seqAt_tup, listAt_cl, list3_tup, sl3_tup, sl3_cl, neg3_int, seqI_tup, seqI_cl, zip3_tup, chain_t, chain_f, Option.bind_some, List.map_cons, List.map_nil, List.length_cons, List.length_nil, List.length_map, List.length_replicate, List.length_append, List.replicate, List.cons_append, List.nil_append, List.append_nil, Nat.sub_self, List.getElem?_cons_zero, List.getElem?_cons_succ, List.set_cons_zero, List.set_cons_succ, Nat.reduceAdd, Nat.reduceSub, Nat.zero_add, Option.getD_some, Bool.not_true, Bool.not_false, if_true, if_false, ite_true, ite_false, Bool.false_eq_true, reduceIte, decide_eq_true_eq, true_and, and_true]
        refine ⟨fun i2 τ M' => ∃ (e : List (Int × Int)) (f g h j l : Option D), τ = pfS p q mk k (some (.int rt.1)) (some (.int rt.2)) (some (.int (0 + (t : Nat) * 1))) (some (.int e1.length)) f g h j l ∧ M' k = some (.dic (encD e)) ∧ Nw p q mk (rt.1 % p) e0 e ∧ Sub M M' ∧ (getI e (rt.1 % p)).isSome = true ∧ ((e1.length < e.length ∧ cnt p q mk e < cnt p q mk e1) ∨ (e = e1 ∧ ∀ m ∈ mk.take i2, (getI e1 (m.1 % p)).isSome = (getI e1 (p + m.1 % q)).isSome)), ⟨e1, f, g, h, j, l, rfl, e4, nw1, sb4, kr, .inr ⟨rfl, fun m hm => by simp at hm⟩⟩, ?_⟩
        rintro i2 τ M5 ⟨e, f, g, h, j, l, rfl, e5, nw, sb5, kr5, hc⟩ hi2
        rw [List.length_map] at hi2 ⊢
        refine ⟨trivial, fun dd hd => ?_, fun ei2 => ?_⟩
        · rw [List.getElem?_map] at hd
          cases hz2 : mk[i2]? with
          | none => rw [hz2] at hd; cases hd
          | some m =>
            rw [hz2] at hd
            cases hd
            have hm := List.mem_of_getElem? hz2
            have take2 : mk.take (i2 + 1) = mk.take i2 ++ [m] := by rw [List.take_add_one, hz2]; rfl
            have le1 : e1.length ≤ e.length ∧ cnt p q mk e ≤ cnt p q mk e1 := by
              rcases hc with ⟨h1, h2⟩ | ⟨h1, _⟩
              · omega
              · rw [h1]; exact ⟨Nat.le_refl _, Nat.le_refl _⟩
            have same : (getI e (m.1 % p)).isSome = (getI e (p + m.1 % q)).isSome → ((e1.length < e.length ∧ cnt p q mk e < cnt p q mk e1) ∨ (e = e1 ∧ ∀ m ∈ mk.take (i2 + 1), (getI e1 (m.1 % p)).isSome = (getI e1 (p + m.1 % q)).isSome)) := by
              intro hs
              rcases hc with h | ⟨h1, h2⟩
              · exact .inl h
              · refine .inr ⟨h1, fun m' hm' => ?_⟩
                rw [take2] at hm'
                rcases List.mem_append.mp hm' with h | h
                · exact h2 m' h
                · rw [List.mem_singleton] at h
                  subst h; rw [← h1]; exact hs
            have kput : ∀ x v, (getI (putI e x v) (rt.1 % p)).isSome = true := fun x v => by
              rw [get_put]; split
              · rfl
              · exact kr5
            simp only [pfS, inn_, nin_, in3_dic e5, getK_enc, Option.isSome_map, id, G3.wpSs, G3.wpS, G3.wpE, G3.wpEL, G3.wpO, G3.wpTO, G3.wpT, G3.wpAnd, G3.wpOr, G3.wpAndT, G3.wpOrT, G3.wpI, G3.wpG, G3.wpGs, G3.wipe3, G3.st3, G3.bi3, G3.me3, G3.Me.ty, G3.rets, some3_some, some3_none, atI0, atI1, atI2, atI3, ix3_tup, ix3_cl, getR3_ref, len3_tup, len3_cl, G3.add_int, add_tup, G3.sub_int, G3.mul_int, fdiv_int, G3.mod_int, pow_int, shl_int, aadd_int, asub_int, G3.eq_int, G3.ne_int, G3.lt_int, G3.le_int, G3.gt_int, G3.ge_int, isN_, notN_, inn_, nin_, in3_tup, isNon_int, isNon_non, isNon_tup, isNon_ref, isB3_bl, isI_int, one_, two_, tru_bl, tru_int, tru_non, tru_tup, int3_int, int3_bl, seqAt_tup, listAt_cl, list3_tup, sl3_tup, sl3_cl, neg3_int, seqI_tup, seqI_cl, zip3_tup, chain_t, chain_f, Option.bind_some, List.map_cons, List.map_nil, List.length_cons, List.length_nil, List.length_map, List.length_replicate, List.length_append, List.replicate, List.cons_append, List.nil_append, List.append_nil, Nat.sub_self, List.getElem?_cons_zero, List.getElem?_cons_succ, List.set_cons_zero, List.set_cons_succ, Nat.reduceAdd, Nat.reduceSub, Nat.zero_add, Option.getD_some, Bool.not_true, Bool.not_false, if_true, if_false, ite_true, ite_false, Bool.false_eq_true, reduceIte, decide_eq_true_eq, true_and, and_true]
            refine ⟨by omega, by omega, ?_⟩
            cases ha2 : getI e (m.1 % p) with
            | none =>
              cases hb2 : getI e (p + m.1 % q) with
              | none =>
                simp only [r1__law_pair_fits, inn_, nin_, in3_dic e5, getK_enc, Option.isSome_map, id, ha2, hb2, Option.isSome_none, G3.wpSs, G3.wpS, G3.wpE, G3.wpEL, G3.wpO, G3.wpTO, G3.wpT, G3.wpAnd, G3.wpOr, G3.wpAndT, G3.wpOrT, G3.wpI, G3.wpG, G3.wpGs, G3.wipe3, G3.st3, G3.bi3, G3.me3, G3.Me.ty, G3.rets, some3_some, some3_none, atI0, atI1, atI2, atI3, ix3_tup, ix3_cl, getR3_ref, len3_tup, len3_cl, G3.add_int, add_tup, G3.sub_int, G3.mul_int, fdiv_int, G3.mod_int, pow_int, shl_int, aadd_int, asub_int, G3.eq_int, G3.ne_int, G3.lt_int, G3.le_int, G3.gt_int, G3.ge_int, isN_, notN_, inn_, nin_, in3_tup, isNon_int, isNon_non, isNon_tup, isNon_ref, isB3_bl, isI_int, one_, two_, tru_bl, tru_int, tru_non, tru_tup, int3_int, int3_bl, seqAt_tup, listAt_cl, list3_tup, sl3_tup, sl3_cl, neg3_int, seqI_tup, seqI_cl, zip3_tup, chain_t, chain_f, Option.bind_some, List.map_cons, List.map_nil, List.length_cons, List.length_nil, List.length_map, List.length_replicate, List.length_append, List.replicate, List.cons_append, List.nil_append, List.append_nil, Nat.sub_self, List.getElem?_cons_zero, List.getElem?_cons_succ, List.set_cons_zero, List.set_cons_succ, Nat.reduceAdd, Nat.reduceSub, Nat.zero_add, Option.getD_some, Bool.not_true, Bool.not_false, if_true, if_false, ite_true, ite_false, Bool.false_eq_true, reduceIte, decide_eq_true_eq, true_and, and_true]
                exact wk.of ⟨e, _, _, _, _, _, rfl, e5, nw, sb5, kr5, same (by rw [ha2, hb2])⟩
              | some v =>
                simp only [r1__law_pair_fits, inn_, nin_, in3_dic e5, getK_enc, Option.isSome_map, id, ha2, hb2, Option.isSome_none, Option.isSome_some, G3.wpSs, G3.wpS, G3.wpE, G3.wpEL, G3.wpO, G3.wpTO, G3.wpT, G3.wpAnd, G3.wpOr, G3.wpAndT, G3.wpOrT, G3.wpI, G3.wpG, G3.wpGs, G3.wipe3, G3.st3, G3.bi3, G3.me3, G3.Me.ty, G3.rets, some3_some, some3_none, atI0, atI1, atI2, atI3, ix3_tup, ix3_cl, getR3_ref, len3_tup, len3_cl, G3.add_int, add_tup, G3.sub_int, G3.mul_int, fdiv_int, G3.mod_int, pow_int, shl_int, aadd_int, asub_int, G3.eq_int, G3.ne_int, G3.lt_int, G3.le_int, G3.gt_int, G3.ge_int, isN_, notN_, inn_, nin_, in3_tup, isNon_int, isNon_non, isNon_tup, isNon_ref, isB3_bl, isI_int, one_, two_, tru_bl, tru_int, tru_non, tru_tup, int3_int, int3_bl, seqAt_tup, listAt_cl, list3_tup, sl3_tup, sl3_cl, neg3_int, seqI_tup, seqI_cl, zip3_tup, chain_t, chain_f, Option.bind_some, List.map_cons, List.map_nil, List.length_cons, List.length_nil, List.length_map, List.length_replicate, List.length_append, List.replicate, List.cons_append, List.nil_append, List.append_nil, Nat.sub_self, List.getElem?_cons_zero, List.getElem?_cons_succ, List.set_cons_zero, List.set_cons_succ, Nat.reduceAdd, Nat.reduceSub, Nat.zero_add, Option.getD_some, Bool.not_true, Bool.not_false, if_true, if_false, ite_true, ite_false, Bool.false_eq_true, reduceIte, decide_eq_true_eq, true_and, and_true]
                rw [ix3_dic e5, getK_enc, hb2]
                simp only [Option.map_some, G3.wpSs, G3.wpS, G3.wpE, G3.wpEL, G3.wpO, G3.wpTO, G3.wpT, G3.wpAnd, G3.wpOr, G3.wpAndT, G3.wpOrT, G3.wpI, G3.wpG, G3.wpGs, G3.wipe3, G3.st3, G3.bi3, G3.me3, G3.Me.ty, G3.rets, some3_some, some3_none, atI0, atI1, atI2, atI3, ix3_tup, ix3_cl, getR3_ref, len3_tup, len3_cl, G3.add_int, add_tup, G3.sub_int, G3.mul_int, fdiv_int, G3.mod_int, pow_int, shl_int, aadd_int, asub_int, G3.eq_int, G3.ne_int, G3.lt_int, G3.le_int, G3.gt_int, G3.ge_int, isN_, notN_, inn_, nin_, in3_tup, isNon_int, isNon_non, isNon_tup, isNon_ref, isB3_bl, isI_int, one_, two_, tru_bl, tru_int, tru_non, tru_tup, int3_int, int3_bl, seqAt_tup, listAt_cl, list3_tup, sl3_tup, sl3_cl, neg3_int, seqI_tup, seqI_cl, zip3_tup, chain_t, chain_f, Option.bind_some, List.map_cons, List.map_nil, List.length_cons, List.length_nil, List.length_map, List.length_replicate, List.length_append, List.replicate, List.cons_append, List.nil_append, List.append_nil, Nat.sub_self, List.getElem?_cons_zero, List.getElem?_cons_succ, List.set_cons_zero, List.set_cons_succ, Nat.reduceAdd, Nat.reduceSub, Nat.zero_add, Option.getD_some, Bool.not_true, Bool.not_false, if_true, if_false, ite_true, ite_false, Bool.false_eq_true, reduceIte, decide_eq_true_eq, true_and, and_true]
                rw [set3_dic e5, putD_enc]
                refine ⟨hsz nw.size, wk.of ⟨_, _, _, _, _, _, rfl, put_same, nw.stepA hp hq ok0.cl hm hb2 ha2, sb5.put_free hk, kput _ _, .inl ⟨?_, Nat.lt_of_lt_of_le (cnt_lt (pl_a hm) ha2) le1.2⟩⟩⟩
                rw [put_len ha2]; omega
            | some v =>
              cases hb2 : getI e (p + m.1 % q) with
              | none =>
                simp only [r1__law_pair_fits, Option.isSome_none, Option.isSome_some, G3.wpSs, G3.wpS, G3.wpE, G3.wpEL, G3.wpO, G3.wpTO, G3.wpT, G3.wpAnd, G3.wpOr, G3.wpAndT, G3.wpOrT, G3.wpI, G3.wpG, G3.wpGs, G3.wipe3, G3.st3, G3.bi3, G3.me3, G3.Me.ty, G3.rets, some3_some, some3_none, atI0, atI1, atI2, atI3, ix3_tup, ix3_cl, getR3_ref, len3_tup, len3_cl, G3.add_int, add_tup, G3.sub_int, G3.mul_int, fdiv_int, G3.mod_int, pow_int, shl_int, aadd_int, asub_int, G3.eq_int, G3.ne_int, G3.lt_int, G3.le_int, G3.gt_int, G3.ge_int, isN_, notN_, inn_, nin_, in3_tup, isNon_int, isNon_non, isNon_tup, isNon_ref, isB3_bl, isI_int, one_, two_, tru_bl, tru_int, tru_non, tru_tup, int3_int, int3_bl, seqAt_tup, listAt_cl, list3_tup, sl3_tup, sl3_cl, neg3_int, seqI_tup, seqI_cl, zip3_tup, chain_t, chain_f, Option.bind_some, List.map_cons, List.map_nil, List.length_cons, List.length_nil, List.length_map, List.length_replicate, List.length_append, List.replicate, List.cons_append, List.nil_append, List.append_nil, Nat.sub_self, List.getElem?_cons_zero, List.getElem?_cons_succ, List.set_cons_zero, List.set_cons_succ, Nat.reduceAdd, Nat.reduceSub, Nat.zero_add, Option.getD_some, Bool.not_true, Bool.not_false, if_true, if_false, ite_true, ite_false, Bool.false_eq_true, reduceIte, decide_eq_true_eq, true_and, and_true]
                rw [ix3_dic e5, getK_enc, ha2]
                simp only [Option.map_some, G3.wpSs, G3.wpS, G3.wpE, G3.wpEL, G3.wpO, G3.wpTO, G3.wpT, G3.wpAnd, G3.wpOr, G3.wpAndT, G3.wpOrT, G3.wpI, G3.wpG, G3.wpGs, G3.wipe3, G3.st3, G3.bi3, G3.me3, G3.Me.ty, G3.rets, some3_some, some3_none, atI0, atI1, atI2, atI3, ix3_tup, ix3_cl, getR3_ref, len3_tup, len3_cl, G3.add_int, add_tup, G3.sub_int, G3.mul_int, fdiv_int, G3.mod_int, pow_int, shl_int, aadd_int, asub_int, G3.eq_int, G3.ne_int, G3.lt_int, G3.le_int, G3.gt_int, G3.ge_int, isN_, notN_, inn_, nin_, in3_tup, isNon_int, isNon_non, isNon_tup, isNon_ref, isB3_bl, isI_int, one_, two_, tru_bl, tru_int, tru_non, tru_tup, int3_int, int3_bl, seqAt_tup, listAt_cl, list3_tup, sl3_tup, sl3_cl, neg3_int, seqI_tup, seqI_cl, zip3_tup, chain_t, chain_f, Option.bind_some, List.map_cons, List.map_nil, List.length_cons, List.length_nil, List.length_map, List.length_replicate, List.length_append, List.replicate, List.cons_append, List.nil_append, List.append_nil, Nat.sub_self, List.getElem?_cons_zero, List.getElem?_cons_succ, List.set_cons_zero, List.set_cons_succ, Nat.reduceAdd, Nat.reduceSub, Nat.zero_add, Option.getD_some, Bool.not_true, Bool.not_false, if_true, if_false, ite_true, ite_false, Bool.false_eq_true, reduceIte, decide_eq_true_eq, true_and, and_true]
                rw [set3_dic e5, putD_enc]
                refine ⟨hsz nw.size, ?_⟩
                have e6 := put_same (M := M5) (a := k) (o := .dic (encD (putI e (p + m.1 % q) (m.2 - v))))
                have g1 : (getI (putI e (p + m.1 % q) (m.2 - v)) (p + m.1 % q)) = some (m.2 - v) := by rw [get_put, if_pos rfl]
                have g2 : (getI (putI e (p + m.1 % q) (m.2 - v)) (m.1 % p)) = some v := by
                  rw [get_put, if_neg ?_, ha2]
                  have := aLt hp m.1
                  have := bGe (p := p) hq m.1
                  omega
                have nw' := nw.stepB hp hq ok0.cl hm ha2 hb2
                have sb6 := sb5.put_free (o := .dic (encD (putI e (p + m.1 % q) (m.2 - v)))) hk
                have hlen : e1.length < (putI e (p + m.1 % q) (m.2 - v)).length := by rw [put_len hb2]; omega
                have hcn := Nat.lt_of_lt_of_le (cnt_lt (v := m.2 - v) (pl_b hm) hb2) le1.2
                have kr6 := kput (p + m.1 % q) (m.2 - v)
                generalize putI e (p + m.1 % q) (m.2 - v) = e' at *
                generalize put M5 k (.dic (encD e')) = M6 at *
                simp only [inn_, nin_, in3_dic e6, getK_enc, Option.isSome_map, id, g1, g2, Option.isSome_none, Option.isSome_some, G3.wpSs, G3.wpS, G3.wpE, G3.wpEL, G3.wpO, G3.wpTO, G3.wpT, G3.wpAnd, G3.wpOr, G3.wpAndT, G3.wpOrT, G3.wpI, G3.wpG, G3.wpGs, G3.wipe3, G3.st3, G3.bi3, G3.me3, G3.Me.ty, G3.rets, some3_some, some3_none, atI0, atI1, atI2, atI3, ix3_tup, ix3_cl, getR3_ref, len3_tup, len3_cl, G3.add_int, add_tup, G3.sub_int, G3.mul_int, fdiv_int, G3.mod_int, pow_int, shl_int, aadd_int, asub_int, G3.eq_int, G3.ne_int, G3.lt_int, G3.le_int, G3.gt_int, G3.ge_int, isN_, notN_, inn_, nin_, in3_tup, isNon_int, isNon_non, isNon_tup, isNon_ref, isB3_bl, isI_int, one_, two_, tru_bl, tru_int, tru_non, tru_tup, int3_int, int3_bl, seqAt_tup, listAt_cl, list3_tup, sl3_tup, sl3_cl, neg3_int, seqI_tup, seqI_cl, zip3_tup, chain_t, chain_f, Option.bind_some, List.map_cons, List.map_nil, List.length_cons, List.length_nil, List.length_map, List.length_replicate, List.length_append, List.replicate, List.cons_append, List.nil_append, List.append_nil, Nat.sub_self, List.getElem?_cons_zero, List.getElem?_cons_succ, List.set_cons_zero, List.set_cons_succ, Nat.reduceAdd, Nat.reduceSub, Nat.zero_add, Option.getD_some, Bool.not_true, Bool.not_false, if_true, if_false, ite_true, ite_false, Bool.false_eq_true, reduceIte, decide_eq_true_eq, true_and, and_true]
                exact wk.of ⟨_, _, _, _, _, _, rfl, e6, nw', sb6, kr6, .inl ⟨hlen, hcn⟩⟩
              | some v' =>
                simp only [r1__law_pair_fits, inn_, nin_, in3_dic e5, getK_enc, Option.isSome_map, id, ha2, hb2, Option.isSome_none, Option.isSome_some, G3.wpSs, G3.wpS, G3.wpE, G3.wpEL, G3.wpO, G3.wpTO, G3.wpT, G3.wpAnd, G3.wpOr, G3.wpAndT, G3.wpOrT, G3.wpI, G3.wpG, G3.wpGs, G3.wipe3, G3.st3, G3.bi3, G3.me3, G3.Me.ty, G3.rets, some3_some, some3_none, atI0, atI1, atI2, atI3, ix3_tup, ix3_cl, getR3_ref, len3_tup, len3_cl, G3.add_int, add_tup, G3.sub_int, G3.mul_int, fdiv_int, G3.mod_int, pow_int, shl_int, aadd_int, asub_int, G3.eq_int, G3.ne_int, G3.lt_int, G3.le_int, G3.gt_int, G3.ge_int, isN_, notN_, inn_, nin_, in3_tup, isNon_int, isNon_non, isNon_tup, isNon_ref, isB3_bl, isI_int, one_, two_, tru_bl, tru_int, tru_non, tru_tup, int3_int, int3_bl, seqAt_tup, listAt_cl, list3_tup, sl3_tup, sl3_cl, neg3_int, seqI_tup, seqI_cl, zip3_tup, chain_t, chain_f, Option.bind_some, List.map_cons, List.map_nil, List.length_cons, List.length_nil, List.length_map, List.length_replicate, List.length_append, List.replicate, List.cons_append, List.nil_append, List.append_nil, Nat.sub_self, List.getElem?_cons_zero, List.getElem?_cons_succ, List.set_cons_zero, List.set_cons_succ, Nat.reduceAdd, Nat.reduceSub, Nat.zero_add, Option.getD_some, Bool.not_true, Bool.not_false, if_true, if_false, ite_true, ite_false, Bool.false_eq_true, reduceIte, decide_eq_true_eq, true_and, and_true]
                exact wk.of ⟨e, _, _, _, _, _, rfl, e5, nw, sb5, kr5, same (by rw [ha2, hb2]; rfl)⟩
        · subst ei2
          rw [List.take_length] at hc
          refine wk.of ?_
          simp only [pfS, r2__law_pair_fits, len3_dic e5, enc_len, G3.wpSs, G3.wpS, G3.wpE, G3.wpEL, G3.wpO, G3.wpTO, G3.wpT, G3.wpAnd, G3.wpOr, G3.wpAndT, G3.wpOrT, G3.wpI, G3.wpG, G3.wpGs, G3.wipe3, G3.st3, G3.bi3, G3.me3, G3.Me.ty, G3.rets, some3_some, some3_none, atI0, atI1, atI2, atI3, ix3_tup, ix3_cl, getR3_ref, len3_tup, len3_cl, G3.add_int, add_tup, G3.sub_int, G3.mul_int, fdiv_int, G3.mod_int, pow_int, shl_int, aadd_int, asub_int, G3.eq_int, G3.ne_int, G3.lt_int, G3.le_int, G3.gt_int, G3.ge_int, isN_, notN_, inn_, nin_, in3_tup, isNon_int, isNon_non, isNon_tup, isNon_ref, isB3_bl, isI_int, one_, two_, tru_bl, tru_int, tru_non, tru_tup, int3_int, int3_bl, seqAt_tup, listAt_cl, list3_tup, sl3_tup, sl3_cl, neg3_int, seqI_tup, seqI_cl, zip3_tup, chain_t, chain_f, Option.bind_some, List.map_cons, List.map_nil, List.length_cons, List.length_nil, List.length_map, List.length_replicate, List.length_append, List.replicate, List.cons_append, List.nil_append, List.append_nil, Nat.sub_self, List.getElem?_cons_zero, List.getElem?_cons_succ, List.set_cons_zero, List.set_cons_succ, Nat.reduceAdd, Nat.reduceSub, Nat.zero_add, Option.getD_some, Bool.not_true, Bool.not_false, if_true, if_false, ite_true, ite_false, Bool.false_eq_true, reduceIte, decide_eq_true_eq, true_and, and_true]
          rcases hc with ⟨h1, h2⟩ | ⟨rfl, hcl⟩
          · rw [if_neg (by omega)]
            exact wk.of ⟨e, _, _, _, _, _, _, _, rfl, e5, nw, sb5, by omega, kr5⟩
          · rw [if_pos rfl]
            refine wk.of ⟨e, _, _, _, _, _, _, _, _, _, rfl, e5, ok0.next hp hq nw hcl, sb5, fun m hm => ?_⟩
            rw [take1] at hm
            rcases List.mem_append.mp hm with hm | hm
            · have h0 := pr m hm
              obtain ⟨v, hv⟩ := Option.isSome_iff_exists.mp h0
              rw [nw.old _ _ hv]; rfl
            · rw [List.mem_singleton] at hm; subst hm; exact kr5
  · subst ei
    rw [List.take_length] at pr
    refine wk.of ?_
    have kd : ∀ m ∈ mk, getK (encD e0) (.inl (m.1 % p)) = some (.int (vl e0 (m.1 % p))) ∧ getK (encD e0) (.inl (p + m.1 % q)) = some (.int (vl e0 (p + m.1 % q))) := by
      intro m hm
      have h1 := pr m hm
      have h2 := ok0.cl m hm
      rw [h1] at h2
      obtain ⟨v, hv⟩ := Option.isSome_iff_exists.mp h1
      obtain ⟨v', hv'⟩ := Option.isSome_iff_exists.mp h2.symm
      rw [getK_enc, getK_enc, hv, hv']; unfold vl; rw [hv, hv']; exact ⟨rfl, rfl⟩
    simp only [pfS, r3__law_pair_fits, encM, G3.wpSs, G3.wpS, G3.wpE, G3.wpEL, G3.wpO, G3.wpTO, G3.wpT, G3.wpAnd, G3.wpOr, G3.wpAndT, G3.wpOrT, G3.wpI, G3.wpG, G3.wpGs, G3.wipe3, G3.st3, G3.bi3, G3.me3, G3.Me.ty, G3.rets, some3_some, some3_none, atI0, atI1, atI2, atI3, ix3_tup, ix3_cl, getR3_ref, len3_tup, len3_cl, G3.add_int, add_tup, G3.sub_int, G3.mul_int, fdiv_int, G3.mod_int, pow_int, shl_int, aadd_int, asub_int, G3.eq_int, G3.ne_int, G3.lt_int, G3.le_int, G3.gt_int, G3.ge_int, isN_, notN_, inn_, nin_, in3_tup, isNon_int, isNon_non, isNon_tup, isNon_ref, isB3_bl, isI_int, one_, two_, tru_bl, tru_int, tru_non, tru_tup, int3_int, int3_bl, seqAt_tup, listAt_cl, list3_tup, sl3_tup, sl3_cl, neg3_int, seqI_tup, seqI_cl, zip3_tup, chain_t, chain_f, Option.bind_some, List.map_cons, List.map_nil, List.length_cons, List.length_nil, List.length_map, List.length_replicate, List.length_append, List.replicate, List.cons_append, List.nil_append, List.append_nil, Nat.sub_self, List.getElem?_cons_zero, List.getElem?_cons_succ, List.set_cons_zero, List.set_cons_succ, Nat.reduceAdd, Nat.reduceSub, Nat.zero_add, Option.getD_some, Bool.not_true, Bool.not_false, if_true, if_false, ite_true, ite_false, Bool.false_eq_true, reduceIte, decide_eq_true_eq, true_and, and_true]
    refine lc_mp _ mk (fun m => .bl (decide (vl e0 (m.1 % p) + vl e0 (p + m.1 % q) = m.2))) (fun _ _ => trivial) (fun m hm M' sb Qe hh => ?_) (by rw [sline]; omega) ?_
    · obtain ⟨k1, k2⟩ := kd m hm
      simp only [G3.wpSs, G3.wpS, G3.wpE, G3.wpEL, G3.wpO, G3.wpTO, G3.wpT, G3.wpAnd, G3.wpOr, G3.wpAndT, G3.wpOrT, G3.wpI, G3.wpG, G3.wpGs, G3.wipe3, G3.st3, G3.bi3, G3.me3, G3.Me.ty, G3.rets, some3_some, some3_none, atI0, atI1, atI2, atI3, ix3_tup, ix3_cl, getR3_ref, len3_tup, len3_cl, G3.add_int, add_tup, G3.sub_int, G3.mul_int, fdiv_int, G3.mod_int, pow_int, shl_int, aadd_int, asub_int, G3.eq_int, G3.ne_int, G3.lt_int, G3.le_int, G3.gt_int, G3.ge_int, isN_, notN_, inn_, nin_, in3_tup, isNon_int, isNon_non, isNon_tup, isNon_ref, isB3_bl, isI_int, one_, two_, tru_bl, tru_int, tru_non, tru_tup, int3_int, int3_bl, seqAt_tup, listAt_cl, list3_tup, sl3_tup, sl3_cl, neg3_int, seqI_tup, seqI_cl, zip3_tup, chain_t, chain_f, Option.bind_some, List.map_cons, List.map_nil, List.length_cons, List.length_nil, List.length_map, List.length_replicate, List.length_append, List.replicate, List.cons_append, List.nil_append, List.append_nil, Nat.sub_self, List.getElem?_cons_zero, List.getElem?_cons_succ, List.set_cons_zero, List.set_cons_succ, Nat.reduceAdd, Nat.reduceSub, Nat.zero_add, Option.getD_some, Bool.not_true, Bool.not_false, if_true, if_false, ite_true, ite_false, Bool.false_eq_true, reduceIte, decide_eq_true_eq, true_and, and_true]
      refine ⟨by omega, ?_⟩
      rw [ix3_dic (sb _ _ e2), k1]
      simp only [G3.wpSs, G3.wpS, G3.wpE, G3.wpEL, G3.wpO, G3.wpTO, G3.wpT, G3.wpAnd, G3.wpOr, G3.wpAndT, G3.wpOrT, G3.wpI, G3.wpG, G3.wpGs, G3.wipe3, G3.st3, G3.bi3, G3.me3, G3.Me.ty, G3.rets, some3_some, some3_none, atI0, atI1, atI2, atI3, ix3_tup, ix3_cl, getR3_ref, len3_tup, len3_cl, G3.add_int, add_tup, G3.sub_int, G3.mul_int, fdiv_int, G3.mod_int, pow_int, shl_int, aadd_int, asub_int, G3.eq_int, G3.ne_int, G3.lt_int, G3.le_int, G3.gt_int, G3.ge_int, isN_, notN_, inn_, nin_, in3_tup, isNon_int, isNon_non, isNon_tup, isNon_ref, isB3_bl, isI_int, one_, two_, tru_bl, tru_int, tru_non, tru_tup, int3_int, int3_bl, seqAt_tup, listAt_cl, list3_tup, sl3_tup, sl3_cl, neg3_int, seqI_tup, seqI_cl, zip3_tup, chain_t, chain_f, Option.bind_some, List.map_cons, List.map_nil, List.length_cons, List.length_nil, List.length_map, List.length_replicate, List.length_append, List.replicate, List.cons_append, List.nil_append, List.append_nil, Nat.sub_self, List.getElem?_cons_zero, List.getElem?_cons_succ, List.set_cons_zero, List.set_cons_succ, Nat.reduceAdd, Nat.reduceSub, Nat.zero_add, Option.getD_some, Bool.not_true, Bool.not_false, if_true, if_false, ite_true, ite_false, Bool.false_eq_true, reduceIte, decide_eq_true_eq, true_and, and_true]
      refine ⟨by omega, ?_⟩
      rw [ix3_dic (sb _ _ e2), k2]
      simp only [G3.wpSs, G3.wpS, G3.wpE, G3.wpEL, G3.wpO, G3.wpTO, G3.wpT, G3.wpAnd, G3.wpOr, G3.wpAndT, G3.wpOrT, G3.wpI, G3.wpG, G3.wpGs, G3.wipe3, G3.st3, G3.bi3, G3.me3, G3.Me.ty, G3.rets, some3_some, some3_none, atI0, atI1, atI2, atI3, ix3_tup, ix3_cl, getR3_ref, len3_tup, len3_cl, G3.add_int, add_tup, G3.sub_int, G3.mul_int, fdiv_int, G3.mod_int, pow_int, shl_int, aadd_int, asub_int, G3.eq_int, G3.ne_int, G3.lt_int, G3.le_int, G3.gt_int, G3.ge_int, isN_, notN_, inn_, nin_, in3_tup, isNon_int, isNon_non, isNon_tup, isNon_ref, isB3_bl, isI_int, one_, two_, tru_bl, tru_int, tru_non, tru_tup, int3_int, int3_bl, seqAt_tup, listAt_cl, list3_tup, sl3_tup, sl3_cl, neg3_int, seqI_tup, seqI_cl, zip3_tup, chain_t, chain_f, Option.bind_some, List.map_cons, List.map_nil, List.length_cons, List.length_nil, List.length_map, List.length_replicate, List.length_append, List.replicate, List.cons_append, List.nil_append, List.append_nil, Nat.sub_self, List.getElem?_cons_zero, List.getElem?_cons_succ, List.set_cons_zero, List.set_cons_succ, Nat.reduceAdd, Nat.reduceSub, Nat.zero_add, Option.getD_some, Bool.not_true, Bool.not_false, if_true, if_false, ite_true, ite_false, Bool.false_eq_true, reduceIte, decide_eq_true_eq, true_and, and_true]
      exact hh _ .refl
    · rw [show (mk.map fun m => D.bl (decide (vl e0 (m.1 % p) + vl e0 (p + m.1 % q) = m.2))) = (mk.map fun m => decide (vl e0 (m.1 % p) + vl e0 (p + m.1 % q) = m.2)).map .bl by rw [List.map_map]; rfl]
      intro r hr
      rw [in3_ref put_same, inF_bls]
      refine ⟨rfl, flat_bls, ?_⟩
      have ef : (!!(mk.map fun m => decide (vl e0 (m.1 % p) + vl e0 (p + m.1 % q) = m.2)).all id) = fitsB p q mk := by
        rw [Bool.not_not, Bool.eq_iff_iff, fitsB_iff, List.all_map, List.all_eq_true]
        constructor
        · intro hh
          exact ⟨vl e0, fun m hm => of_decide_eq_true (hh m hm)⟩
        · intro f m hm
          have h1 := pr m hm
          have h2 := ok0.cl m hm
          rw [h1] at h2
          obtain ⟨v, hv⟩ := Option.isSome_iff_exists.mp h1
          obtain ⟨v', hv'⟩ := Option.isSome_iff_exists.mp h2.symm
          have := ok0.fit f m hm v v' hv hv'
          simp only [Function.comp, id]
          rw [decide_eq_true_eq]
          unfold vl
          rw [hv, hv']
          exact this
      rw [ef]
      exact wk_sub (sb2.trans (.new hr)) hQ
end K82
set_option Elab.async false
set_option linter.all false
set_option maxRecDepth 100000
set_option maxHeartbeats 4000000
namespace K82
open G3 L2 G3w
theorem same3 {d : D} {M : Mp} {Q : K3} (f : okF d) (q : Q (.bl true) M) : sp__law_same 3 [d, d] M Q := ⟨d, d, rfl, same_one f, q⟩
theorem same3_ints {l : List Nat} {M : Mp} {Q : K3} (hl : l.length ≤ 1000000) (q : Q (.bl true) M) : sp__law_same 3 [encN l, encN l] M Q := by
  refine ⟨_, _, rfl, .inr (.inl ⟨_, _, rfl, rfl, rfl, by rw [List.length_map]; exact hl, fun i x y hx hy => ?_⟩), q⟩
  have : x = y := by rw [hx] at hy; exact Option.some.inj hy
  subst this
  obtain ⟨z, _, rfl⟩ := List.mem_map.mp (List.mem_of_getElem? hx)
  exact same_one trivial
theorem same3_pairs {l : List (Nat × Nat)} {M : Mp} {Q : K3} (hl : l.length ≤ 1000000) (q : Q (.bl true) M) : sp__law_same 3 [.tup (l.map encP), .tup (l.map encP)] M Q := by
  refine ⟨_, _, rfl, .inr (.inl ⟨_, _, rfl, rfl, rfl, by rw [List.length_map]; exact hl, fun i x y hx hy => ?_⟩), q⟩
  have : x = y := by rw [hx] at hy; exact Option.some.inj hy
  subst this
  obtain ⟨z, _, rfl⟩ := List.mem_map.mp (List.mem_of_getElem? hx)
  refine .inr (.inl ⟨_, _, rfl, rfl, rfl, by simp, fun i x y hx hy => ?_⟩)
  have : x = y := by rw [hx] at hy; exact Option.some.inj hy
  subst this
  have hm := List.mem_of_getElem? hx
  simp only [List.mem_cons, List.not_mem_nil, or_false] at hm
  rcases hm with rfl | rfl <;> exact same_one trivial
theorem perL_succ {P : Nat → Nat → Bool} {most n : Nat} : perL P most (n + 1) = perL P most n ++ (row most n).filter fun x => P x.1 x.2 := by
  unfold perL
  rw [pairs_succ, List.filter_append]
def sp__law_periods_are_right : Sp3 := fun ds M Q => ∃ (mk : Mk) (most : Nat), ds = [encM mk, .int most] ∧ most ≤ 100 ∧ mk.length ≤ 1000 ∧ Q (.bl true) M
theorem t__law_periods_are_right : ∀ ds M Q, sp__law_periods_are_right ds M Q → G3.wpSs (b__law_periods_are_right (sp__law_same 3) sp_fitting_periods sp__law_pair_fits) (rets Q) (st3 n__law_periods_are_right.length ds) M := by
  rintro ds M Q ⟨mk, most, rfl, h1, hl, q⟩
  simp only [b__law_periods_are_right, n__law_periods_are_right, G3.wpSs, G3.wpS, G3.wpE, G3.wpEL, G3.wpO, G3.wpTO, G3.wpT, G3.wpAnd, G3.wpOr, G3.wpAndT, G3.wpOrT, G3.wpI, G3.wpG, G3.wpGs, G3.wipe3, G3.st3, G3.bi3, G3.me3, G3.Me.ty, G3.rets, some3_some, some3_none, atI0, atI1, atI2, atI3, ix3_tup, ix3_cl, getR3_ref, len3_tup, len3_cl, G3.add_int, add_tup, G3.sub_int, G3.mul_int, fdiv_int, G3.mod_int, pow_int, shl_int, aadd_int, asub_int, G3.eq_int, G3.ne_int, G3.lt_int, G3.le_int, G3.gt_int, G3.ge_int, isN_, notN_, inn_, nin_, in3_tup, isNon_int, isNon_non, isNon_tup, isNon_ref, isB3_bl, isI_int, one_, two_, tru_bl, tru_int, tru_non, tru_tup, int3_int, int3_bl, seqAt_tup, listAt_cl, list3_tup, sl3_tup, sl3_cl, neg3_int, seqI_tup, seqI_cl, zip3_tup, chain_t, chain_f, Option.bind_some, List.map_cons, List.map_nil, List.length_cons, List.length_nil, List.length_map, List.length_replicate, List.length_append, List.replicate, List.cons_append, List.nil_append, List.append_nil, Nat.sub_self, List.getElem?_cons_zero, List.getElem?_cons_succ, List.set_cons_zero, List.set_cons_succ, Nat.reduceAdd, Nat.reduceSub, Nat.zero_add, Option.getD_some, Bool.not_true, Bool.not_false, if_true, if_false, ite_true, ite_false, Bool.false_eq_true, reduceIte, decide_eq_true_eq, true_and, and_true]
  intro t ht
  refine ⟨⟨by omega, by omega, by omega, by omega⟩, ?_⟩
  have em : ((most : Int) + 1 - 1).toNat = most := by omega
  rw [em]
  have pl : ∀ n, n ≤ most → (perL (fun p q => fitsB p q mk) most n).length ≤ 10000 := fun n hn => by
    unfold perL
    exact Nat.le_trans (List.length_filter_le _ _) (Nat.le_trans pairs_len (Nat.mul_le_mul (Nat.le_trans hn h1) h1))
  refine ⟨fun i τ M' => ∃ (b : Addr) (y3 y4 : Option D), τ = [some (encM mk), some (.int most), some (.ref b), y3, y4] ∧ M' b = some (.lst ((perL (fun p q => fitsB p q mk) most i).map encP)) ∧ Sub M M', ⟨t, _, _, rfl, put_same, Sub.new ht⟩, ?_⟩
  rintro i τ M1 ⟨b, y3, y4, rfl, eb, sb⟩ hi
  rw [rgD_length] at hi ⊢
  refine ⟨trivial, fun d hd => ?_, fun ei => ?_⟩
  · obtain ⟨hi2, rfl⟩ := rgD_get hd
    simp only [G3.wpSs, G3.wpS, G3.wpE, G3.wpEL, G3.wpO, G3.wpTO, G3.wpT, G3.wpAnd, G3.wpOr, G3.wpAndT, G3.wpOrT, G3.wpI, G3.wpG, G3.wpGs, G3.wipe3, G3.st3, G3.bi3, G3.me3, G3.Me.ty, G3.rets, some3_some, some3_none, atI0, atI1, atI2, atI3, ix3_tup, ix3_cl, getR3_ref, len3_tup, len3_cl, G3.add_int, add_tup, G3.sub_int, G3.mul_int, fdiv_int, G3.mod_int, pow_int, shl_int, aadd_int, asub_int, G3.eq_int, G3.ne_int, G3.lt_int, G3.le_int, G3.gt_int, G3.ge_int, isN_, notN_, inn_, nin_, in3_tup, isNon_int, isNon_non, isNon_tup, isNon_ref, isB3_bl, isI_int, one_, two_, tru_bl, tru_int, tru_non, tru_tup, int3_int, int3_bl, seqAt_tup, listAt_cl, list3_tup, sl3_tup, sl3_cl, neg3_int, seqI_tup, seqI_cl, zip3_tup, chain_t, chain_f, Option.bind_some, List.map_cons, List.map_nil, List.length_cons, List.length_nil, List.length_map, List.length_replicate, List.length_append, List.replicate, List.cons_append, List.nil_append, List.append_nil, Nat.sub_self, List.getElem?_cons_zero, List.getElem?_cons_succ, List.set_cons_zero, List.set_cons_succ, Nat.reduceAdd, Nat.reduceSub, Nat.zero_add, Option.getD_some, Bool.not_true, Bool.not_false, if_true, if_false, ite_true, ite_false, Bool.false_eq_true, reduceIte, decide_eq_true_eq, true_and, and_true]
    refine ⟨⟨by omega, by omega, by omega, by omega⟩, ?_⟩
    have em2 : ((most : Int) + 1 - (1 + (i : Nat) * 1)).toNat = most - i := by omega
    rw [em2, show rgD (1 + (i : Nat) * 1) 1 (most - i) = (row most i).map (fun x => D.int (x.2 : Nat)) from by
      unfold rgD row
      rw [List.map_map]
      refine List.map_congr_left fun k _ => ?_
      simp only [Function.comp]
      congr 1; omega]
    refine lc_fm _ (row most i) (fun x => if fitsB x.1 x.2 mk = true then some (encP x) else none) (fun _ _ => trivial) (fun x hx M2 sb2 Qe Qn k1 k2 => ?_) (by have := row_len (most := most) (i := i); rw [sline]; omega) ?_
    · have hx1 : x.1 = 1 + i ∧ 0 < x.2 ∧ x.2 ≤ most := by
        unfold row at hx
        obtain ⟨j, hj, rfl⟩ := List.mem_map.mp hx
        rw [List.mem_range] at hj
        exact ⟨rfl, by show 0 < 1 + i + j; omega, by show 1 + i + j ≤ most; omega⟩
      simp only [G3.wpSs, G3.wpS, G3.wpE, G3.wpEL, G3.wpO, G3.wpTO, G3.wpT, G3.wpAnd, G3.wpOr, G3.wpAndT, G3.wpOrT, G3.wpI, G3.wpG, G3.wpGs, G3.wipe3, G3.st3, G3.bi3, G3.me3, G3.Me.ty, G3.rets, some3_some, some3_none, atI0, atI1, atI2, atI3, ix3_tup, ix3_cl, getR3_ref, len3_tup, len3_cl, G3.add_int, add_tup, G3.sub_int, G3.mul_int, fdiv_int, G3.mod_int, pow_int, shl_int, aadd_int, asub_int, G3.eq_int, G3.ne_int, G3.lt_int, G3.le_int, G3.gt_int, G3.ge_int, isN_, notN_, inn_, nin_, in3_tup, isNon_int, isNon_non, isNon_tup, isNon_ref, isB3_bl, isI_int, one_, two_, tru_bl, tru_int, tru_non, tru_tup, int3_int, int3_bl, seqAt_tup, listAt_cl, list3_tup, sl3_tup, sl3_cl, neg3_int, seqI_tup, seqI_cl, zip3_tup, chain_t, chain_f, Option.bind_some, List.map_cons, List.map_nil, List.length_cons, List.length_nil, List.length_map, List.length_replicate, List.length_append, List.replicate, List.cons_append, List.nil_append, List.append_nil, Nat.sub_self, List.getElem?_cons_zero, List.getElem?_cons_succ, List.set_cons_zero, List.set_cons_succ, Nat.reduceAdd, Nat.reduceSub, Nat.zero_add, Option.getD_some, Bool.not_true, Bool.not_false, if_true, if_false, ite_true, ite_false, Bool.false_eq_true, reduceIte, decide_eq_true_eq, true_and, and_true]
      have e1 : (1 + (i : Int) * 1) = (x.1 : Nat) := by omega
      rw [e1]
      refine ⟨x.1, x.2, mk, rfl, by omega, by omega, by omega, by omega, hl, ?_⟩
      simp only [G3.wpSs, G3.wpS, G3.wpE, G3.wpEL, G3.wpO, G3.wpTO, G3.wpT, G3.wpAnd, G3.wpOr, G3.wpAndT, G3.wpOrT, G3.wpI, G3.wpG, G3.wpGs, G3.wipe3, G3.st3, G3.bi3, G3.me3, G3.Me.ty, G3.rets, some3_some, some3_none, atI0, atI1, atI2, atI3, ix3_tup, ix3_cl, getR3_ref, len3_tup, len3_cl, G3.add_int, add_tup, G3.sub_int, G3.mul_int, fdiv_int, G3.mod_int, pow_int, shl_int, aadd_int, asub_int, G3.eq_int, G3.ne_int, G3.lt_int, G3.le_int, G3.gt_int, G3.ge_int, isN_, notN_, inn_, nin_, in3_tup, isNon_int, isNon_non, isNon_tup, isNon_ref, isB3_bl, isI_int, one_, two_, tru_bl, tru_int, tru_non, tru_tup, int3_int, int3_bl, seqAt_tup, listAt_cl, list3_tup, sl3_tup, sl3_cl, neg3_int, seqI_tup, seqI_cl, zip3_tup, chain_t, chain_f, Option.bind_some, List.map_cons, List.map_nil, List.length_cons, List.length_nil, List.length_map, List.length_replicate, List.length_append, List.replicate, List.cons_append, List.nil_append, List.append_nil, Nat.sub_self, List.getElem?_cons_zero, List.getElem?_cons_succ, List.set_cons_zero, List.set_cons_succ, Nat.reduceAdd, Nat.reduceSub, Nat.zero_add, Option.getD_some, Bool.not_true, Bool.not_false, if_true, if_false, ite_true, ite_false, Bool.false_eq_true, reduceIte, decide_eq_true_eq, true_and, and_true]
      by_cases c : fitsB x.1 x.2 mk = true
      · rw [if_pos c] at k1
        rw [if_pos c]
        exact k1 _ rfl _ .refl
      · rw [if_neg c] at k2
        rw [if_neg c]
        exact k2 rfl _ .refl
    · have ef : (row most i).filterMap (fun x => if fitsB x.1 x.2 mk = true then some (encP x) else none) = ((row most i).filter fun x => fitsB x.1 x.2 mk).map encP := by
        generalize row most i = l
        induction l with
        | nil => rfl
        | cons x l ih =>
          rw [List.filterMap_cons, List.filter_cons]
          by_cases c : fitsB x.1 x.2 mk = true
          · simp only [if_pos c, ih]; rfl
          · simp only [if_neg c, ih]
      rw [ef]
      intro r hr
      have hp := pl (i + 1) (by omega)
      have hs := perL_succ (P := fun p q => fitsB p q mk) (most := most) (n := i)
      rw [add_ref (put_keep eb hr) put_same, ← List.map_append, ← hs]
      refine ⟨?_, fun b' hb' => ?_⟩
      · rw [hs, List.length_append] at hp
        rw [List.length_map, List.length_map, sline]; omega
      · exact wk.of ⟨b', _, _, rfl, put_same, sb.trans ((Sub.new hr).trans (.new hb'))⟩
  · subst ei
    refine wk.of ?_
    simp only [r1__law_periods_are_right, G3.wpSs, G3.wpS, G3.wpE, G3.wpEL, G3.wpO, G3.wpTO, G3.wpT, G3.wpAnd, G3.wpOr, G3.wpAndT, G3.wpOrT, G3.wpI, G3.wpG, G3.wpGs, G3.wipe3, G3.st3, G3.bi3, G3.me3, G3.Me.ty, G3.rets, some3_some, some3_none, atI0, atI1, atI2, atI3, ix3_tup, ix3_cl, getR3_ref, len3_tup, len3_cl, G3.add_int, add_tup, G3.sub_int, G3.mul_int, fdiv_int, G3.mod_int, pow_int, shl_int, aadd_int, asub_int, G3.eq_int, G3.ne_int, G3.lt_int, G3.le_int, G3.gt_int, G3.ge_int, isN_, notN_, inn_, nin_, in3_tup, isNon_int, isNon_non, isNon_tup, isNon_ref, isB3_bl, isI_int, one_, two_, tru_bl, tru_int, tru_non, tru_tup, int3_int, int3_bl, seqAt_tup, listAt_cl, list3_tup, sl3_tup, sl3_cl, neg3_int, seqI_tup, seqI_cl, zip3_tup, chain_t, chain_f, Option.bind_some, List.map_cons, List.map_nil, List.length_cons, List.length_nil, List.length_map, List.length_replicate, List.length_append, List.replicate, List.cons_append, List.nil_append, List.append_nil, Nat.sub_self, List.getElem?_cons_zero, List.getElem?_cons_succ, List.set_cons_zero, List.set_cons_succ, Nat.reduceAdd, Nat.reduceSub, Nat.zero_add, Option.getD_some, Bool.not_true, Bool.not_false, if_true, if_false, ite_true, ite_false, Bool.false_eq_true, reduceIte, decide_eq_true_eq, true_and, and_true]
    refine ⟨mk, i, rfl, h1, hl, ?_⟩
    simp only [seqAt_ref eb, G3.wpSs, G3.wpS, G3.wpE, G3.wpEL, G3.wpO, G3.wpTO, G3.wpT, G3.wpAnd, G3.wpOr, G3.wpAndT, G3.wpOrT, G3.wpI, G3.wpG, G3.wpGs, G3.wipe3, G3.st3, G3.bi3, G3.me3, G3.Me.ty, G3.rets, some3_some, some3_none, atI0, atI1, atI2, atI3, ix3_tup, ix3_cl, getR3_ref, len3_tup, len3_cl, G3.add_int, add_tup, G3.sub_int, G3.mul_int, fdiv_int, G3.mod_int, pow_int, shl_int, aadd_int, asub_int, G3.eq_int, G3.ne_int, G3.lt_int, G3.le_int, G3.gt_int, G3.ge_int, isN_, notN_, inn_, nin_, in3_tup, isNon_int, isNon_non, isNon_tup, isNon_ref, isB3_bl, isI_int, one_, two_, tru_bl, tru_int, tru_non, tru_tup, int3_int, int3_bl, seqAt_tup, listAt_cl, list3_tup, sl3_tup, sl3_cl, neg3_int, seqI_tup, seqI_cl, zip3_tup, chain_t, chain_f, Option.bind_some, List.map_cons, List.map_nil, List.length_cons, List.length_nil, List.length_map, List.length_replicate, List.length_append, List.replicate, List.cons_append, List.nil_append, List.append_nil, Nat.sub_self, List.getElem?_cons_zero, List.getElem?_cons_succ, List.set_cons_zero, List.set_cons_succ, Nat.reduceAdd, Nat.reduceSub, Nat.zero_add, Option.getD_some, Bool.not_true, Bool.not_false, if_true, if_false, ite_true, ite_false, Bool.false_eq_true, reduceIte, decide_eq_true_eq, true_and, and_true]
    exact same3_pairs (by have := pl i (Nat.le_refl _); omega) (wk_sub sb q)
def sp__law_clock_is_right : Sp3 := fun ds M Q => ∃ (w0 w1 : List Int) (mk : Mk) (hour : Int), ds = [whl w0 w1, encM mk, .int hour] ∧ Wh w0 w1 ∧ mk.length ≤ 1000 ∧ Q (.bl true) M
theorem t__law_clock_is_right : ∀ ds M Q, sp__law_clock_is_right ds M Q → G3.wpSs (b__law_clock_is_right (sp__law_same 3) sp_clock_height sp_height_at sp_fitting_offsets sp_round_heights) (rets Q) (st3 n__law_clock_is_right.length ds) M := by
  rintro ds M Q ⟨w0, w1, mk, hour, rfl, w, hl, q⟩
  simp only [b__law_clock_is_right, n__law_clock_is_right, G3.wpSs, G3.wpS, G3.wpE, G3.wpEL, G3.wpO, G3.wpTO, G3.wpT, G3.wpAnd, G3.wpOr, G3.wpAndT, G3.wpOrT, G3.wpI, G3.wpG, G3.wpGs, G3.wipe3, G3.st3, G3.bi3, G3.me3, G3.Me.ty, G3.rets, some3_some, some3_none, atI0, atI1, atI2, atI3, ix3_tup, ix3_cl, getR3_ref, len3_tup, len3_cl, G3.add_int, add_tup, G3.sub_int, G3.mul_int, fdiv_int, G3.mod_int, pow_int, shl_int, aadd_int, asub_int, G3.eq_int, G3.ne_int, G3.lt_int, G3.le_int, G3.gt_int, G3.ge_int, isN_, notN_, inn_, nin_, in3_tup, isNon_int, isNon_non, isNon_tup, isNon_ref, isB3_bl, isI_int, one_, two_, tru_bl, tru_int, tru_non, tru_tup, int3_int, int3_bl, seqAt_tup, listAt_cl, list3_tup, sl3_tup, sl3_cl, neg3_int, seqI_tup, seqI_cl, zip3_tup, chain_t, chain_f, Option.bind_some, List.map_cons, List.map_nil, List.length_cons, List.length_nil, List.length_map, List.length_replicate, List.length_append, List.replicate, List.cons_append, List.nil_append, List.append_nil, Nat.sub_self, List.getElem?_cons_zero, List.getElem?_cons_succ, List.set_cons_zero, List.set_cons_succ, Nat.reduceAdd, Nat.reduceSub, Nat.zero_add, Option.getD_some, Bool.not_true, Bool.not_false, if_true, if_false, ite_true, ite_false, Bool.false_eq_true, reduceIte, decide_eq_true_eq, true_and, and_true]
  refine ⟨w0, w1, rfl, w, fun r0 hr0 => ?_⟩
  have hll := lcm_le w.l0 w.l1
  have er0 := put_same (M := M) (a := r0) (o := .lst ((rh w0 w1).map .int))
  simp only [len3_ref er0, rh_len, G3.wpSs, G3.wpS, G3.wpE, G3.wpEL, G3.wpO, G3.wpTO, G3.wpT, G3.wpAnd, G3.wpOr, G3.wpAndT, G3.wpOrT, G3.wpI, G3.wpG, G3.wpGs, G3.wipe3, G3.st3, G3.bi3, G3.me3, G3.Me.ty, G3.rets, some3_some, some3_none, atI0, atI1, atI2, atI3, ix3_tup, ix3_cl, getR3_ref, len3_tup, len3_cl, G3.add_int, add_tup, G3.sub_int, G3.mul_int, fdiv_int, G3.mod_int, pow_int, shl_int, aadd_int, asub_int, G3.eq_int, G3.ne_int, G3.lt_int, G3.le_int, G3.gt_int, G3.ge_int, isN_, notN_, inn_, nin_, in3_tup, isNon_int, isNon_non, isNon_tup, isNon_ref, isB3_bl, isI_int, one_, two_, tru_bl, tru_int, tru_non, tru_tup, int3_int, int3_bl, seqAt_tup, listAt_cl, list3_tup, sl3_tup, sl3_cl, neg3_int, seqI_tup, seqI_cl, zip3_tup, chain_t, chain_f, Option.bind_some, List.map_cons, List.map_nil, List.length_cons, List.length_nil, List.length_map, List.length_replicate, List.length_append, List.replicate, List.cons_append, List.nil_append, List.append_nil, Nat.sub_self, List.getElem?_cons_zero, List.getElem?_cons_succ, List.set_cons_zero, List.set_cons_succ, Nat.reduceAdd, Nat.reduceSub, Nat.zero_add, Option.getD_some, Bool.not_true, Bool.not_false, if_true, if_false, ite_true, ite_false, Bool.false_eq_true, reduceIte, decide_eq_true_eq, true_and, and_true]
  intro t ht
  obtain ⟨ft, _⟩ := put_free ht
  refine ⟨by omega, by omega, ?_⟩
  rw [Int.toNat_natCast]
  refine ⟨fun i τ M' => ∃ (y5 y6 y7 y8 : Option D), τ = [some (whl w0 w1), some (encM mk), some (.int hour), some (.int (lcmN w0 w1 : Nat)), some (.ref t), y5, y6, y7, y8] ∧ M' t = some (.lst (((List.range i).filter fun k : Nat => fitB w0 w1 (shift mk k)).map fun k : Nat => .int k)) ∧ Sub M M', ⟨_, _, _, _, rfl, put_same, (Sub.new hr0).trans (.new ht)⟩, ?_⟩
  rintro i τ M1 ⟨y5, y6, y7, y8, rfl, et, sb⟩ hi
  rw [rgD_length] at hi ⊢
  refine ⟨trivial, fun d hd => ?_, fun ei => ?_⟩
  · obtain ⟨hi2, rfl⟩ := rgD_get hd
    have kl : ((0 : Int) + (i : Nat) * 1) = i := by omega
    simp only [kl, encM, G3.wpSs, G3.wpS, G3.wpE, G3.wpEL, G3.wpO, G3.wpTO, G3.wpT, G3.wpAnd, G3.wpOr, G3.wpAndT, G3.wpOrT, G3.wpI, G3.wpG, G3.wpGs, G3.wipe3, G3.st3, G3.bi3, G3.me3, G3.Me.ty, G3.rets, some3_some, some3_none, atI0, atI1, atI2, atI3, ix3_tup, ix3_cl, getR3_ref, len3_tup, len3_cl, G3.add_int, add_tup, G3.sub_int, G3.mul_int, fdiv_int, G3.mod_int, pow_int, shl_int, aadd_int, asub_int, G3.eq_int, G3.ne_int, G3.lt_int, G3.le_int, G3.gt_int, G3.ge_int, isN_, notN_, inn_, nin_, in3_tup, isNon_int, isNon_non, isNon_tup, isNon_ref, isB3_bl, isI_int, one_, two_, tru_bl, tru_int, tru_non, tru_tup, int3_int, int3_bl, seqAt_tup, listAt_cl, list3_tup, sl3_tup, sl3_cl, neg3_int, seqI_tup, seqI_cl, zip3_tup, chain_t, chain_f, Option.bind_some, List.map_cons, List.map_nil, List.length_cons, List.length_nil, List.length_map, List.length_replicate, List.length_append, List.replicate, List.cons_append, List.nil_append, List.append_nil, Nat.sub_self, List.getElem?_cons_zero, List.getElem?_cons_succ, List.set_cons_zero, List.set_cons_succ, Nat.reduceAdd, Nat.reduceSub, Nat.zero_add, Option.getD_some, Bool.not_true, Bool.not_false, if_true, if_false, ite_true, ite_false, Bool.false_eq_true, reduceIte, decide_eq_true_eq, true_and, and_true]
    refine lc_mp _ mk (fun m => .bl (decide (hgt w0 w1 (m.1 + i) = m.2))) (fun _ _ => trivial) (fun m hm M' sb Qe hh => ?_) (by rw [sline]; omega) ?_
    · simp only [G3.wpSs, G3.wpS, G3.wpE, G3.wpEL, G3.wpO, G3.wpTO, G3.wpT, G3.wpAnd, G3.wpOr, G3.wpAndT, G3.wpOrT, G3.wpI, G3.wpG, G3.wpGs, G3.wipe3, G3.st3, G3.bi3, G3.me3, G3.Me.ty, G3.rets, some3_some, some3_none, atI0, atI1, atI2, atI3, ix3_tup, ix3_cl, getR3_ref, len3_tup, len3_cl, G3.add_int, add_tup, G3.sub_int, G3.mul_int, fdiv_int, G3.mod_int, pow_int, shl_int, aadd_int, asub_int, G3.eq_int, G3.ne_int, G3.lt_int, G3.le_int, G3.gt_int, G3.ge_int, isN_, notN_, inn_, nin_, in3_tup, isNon_int, isNon_non, isNon_tup, isNon_ref, isB3_bl, isI_int, one_, two_, tru_bl, tru_int, tru_non, tru_tup, int3_int, int3_bl, seqAt_tup, listAt_cl, list3_tup, sl3_tup, sl3_cl, neg3_int, seqI_tup, seqI_cl, zip3_tup, chain_t, chain_f, Option.bind_some, List.map_cons, List.map_nil, List.length_cons, List.length_nil, List.length_map, List.length_replicate, List.length_append, List.replicate, List.cons_append, List.nil_append, List.append_nil, Nat.sub_self, List.getElem?_cons_zero, List.getElem?_cons_succ, List.set_cons_zero, List.set_cons_succ, Nat.reduceAdd, Nat.reduceSub, Nat.zero_add, Option.getD_some, Bool.not_true, Bool.not_false, if_true, if_false, ite_true, ite_false, Bool.false_eq_true, reduceIte, decide_eq_true_eq, true_and, and_true]
      refine ⟨w0, w1, _, rfl, w.h0, w.h1, ?_⟩
      simp only [G3.wpSs, G3.wpS, G3.wpE, G3.wpEL, G3.wpO, G3.wpTO, G3.wpT, G3.wpAnd, G3.wpOr, G3.wpAndT, G3.wpOrT, G3.wpI, G3.wpG, G3.wpGs, G3.wipe3, G3.st3, G3.bi3, G3.me3, G3.Me.ty, G3.rets, some3_some, some3_none, atI0, atI1, atI2, atI3, ix3_tup, ix3_cl, getR3_ref, len3_tup, len3_cl, G3.add_int, add_tup, G3.sub_int, G3.mul_int, fdiv_int, G3.mod_int, pow_int, shl_int, aadd_int, asub_int, G3.eq_int, G3.ne_int, G3.lt_int, G3.le_int, G3.gt_int, G3.ge_int, isN_, notN_, inn_, nin_, in3_tup, isNon_int, isNon_non, isNon_tup, isNon_ref, isB3_bl, isI_int, one_, two_, tru_bl, tru_int, tru_non, tru_tup, int3_int, int3_bl, seqAt_tup, listAt_cl, list3_tup, sl3_tup, sl3_cl, neg3_int, seqI_tup, seqI_cl, zip3_tup, chain_t, chain_f, Option.bind_some, List.map_cons, List.map_nil, List.length_cons, List.length_nil, List.length_map, List.length_replicate, List.length_append, List.replicate, List.cons_append, List.nil_append, List.append_nil, Nat.sub_self, List.getElem?_cons_zero, List.getElem?_cons_succ, List.set_cons_zero, List.set_cons_succ, Nat.reduceAdd, Nat.reduceSub, Nat.zero_add, Option.getD_some, Bool.not_true, Bool.not_false, if_true, if_false, ite_true, ite_false, Bool.false_eq_true, reduceIte, decide_eq_true_eq, true_and, and_true]
      exact hh _ .refl
    · rw [show (mk.map fun m => D.bl (decide (hgt w0 w1 (m.1 + i) = m.2))) = (mk.map fun m => decide (hgt w0 w1 (m.1 + i) = m.2)).map .bl by rw [List.map_map]; rfl]
      intro r hr
      have et2 := put_keep (o' := .lst ((mk.map fun m => decide (hgt w0 w1 (m.1 + i) = m.2)).map .bl)) et hr
      have e6 := put_same (M := M1) (a := r) (o := .lst ((mk.map fun m => decide (hgt w0 w1 (m.1 + i) = m.2)).map .bl))
      have sb2 := sb.trans (Sub.new (o := .lst ((mk.map fun m => decide (hgt w0 w1 (m.1 + i) = m.2)).map .bl)) hr)
      generalize put M1 r (.lst ((mk.map fun m => decide (hgt w0 w1 (m.1 + i) = m.2)).map .bl)) = M2 at *
      have ef : (mk.map fun m => decide (hgt w0 w1 (m.1 + i) = m.2)).all id = fitB w0 w1 (shift mk i) := by
        unfold fitB shift
        rw [List.all_map, List.all_map]; rfl
      simp only [nin_, in3_ref e6, inF_bls, ef, Bool.not_not, isTyM_ref et2, refL_ref et2, G3.wpSs, G3.wpS, G3.wpE, G3.wpEL, G3.wpO, G3.wpTO, G3.wpT, G3.wpAnd, G3.wpOr, G3.wpAndT, G3.wpOrT, G3.wpI, G3.wpG, G3.wpGs, G3.wipe3, G3.st3, G3.bi3, G3.me3, G3.Me.ty, G3.rets, some3_some, some3_none, atI0, atI1, atI2, atI3, ix3_tup, ix3_cl, getR3_ref, len3_tup, len3_cl, G3.add_int, add_tup, G3.sub_int, G3.mul_int, fdiv_int, G3.mod_int, pow_int, shl_int, aadd_int, asub_int, G3.eq_int, G3.ne_int, G3.lt_int, G3.le_int, G3.gt_int, G3.ge_int, isN_, notN_, inn_, nin_, in3_tup, isNon_int, isNon_non, isNon_tup, isNon_ref, isB3_bl, isI_int, one_, two_, tru_bl, tru_int, tru_non, tru_tup, int3_int, int3_bl, seqAt_tup, listAt_cl, list3_tup, sl3_tup, sl3_cl, neg3_int, seqI_tup, seqI_cl, zip3_tup, chain_t, chain_f, Option.bind_some, List.map_cons, List.map_nil, List.length_cons, List.length_nil, List.length_map, List.length_replicate, List.length_append, List.replicate, List.cons_append, List.nil_append, List.append_nil, Nat.sub_self, List.getElem?_cons_zero, List.getElem?_cons_succ, List.set_cons_zero, List.set_cons_succ, Nat.reduceAdd, Nat.reduceSub, Nat.zero_add, Option.getD_some, Bool.not_true, Bool.not_false, if_true, if_false, ite_true, ite_false, Bool.false_eq_true, reduceIte, decide_eq_true_eq, true_and, and_true]
      refine ⟨rfl, flat_bls, ?_⟩
      have hr1 : (List.range (i + 1)).filter (fun k : Nat => fitB w0 w1 (shift mk k)) = (List.range i).filter (fun k : Nat => fitB w0 w1 (shift mk k)) ++ if fitB w0 w1 (shift mk i) = true then [i] else [] := by
        rw [List.range_succ, List.filter_append, List.filter_cons, List.filter_nil]
      have hle : ((List.range i).filter (fun k : Nat => fitB w0 w1 (shift mk k))).length ≤ i := Nat.le_trans (List.length_filter_le _ _) (by rw [List.length_range]; exact Nat.le_refl _)
      by_cases c : fitB w0 w1 (shift mk i) = true
      · rw [if_pos c] at hr1 ⊢
        refine ⟨by rw [sline]; omega, wk.of ⟨_, _, _, _, rfl, ?_, sb2.put_free ft⟩⟩
        rw [put_same, hr1, List.map_append]; rfl
      · rw [if_neg c] at hr1 ⊢
        exact wk.of ⟨_, _, _, _, rfl, by rw [hr1, List.append_nil]; exact et2, sb2⟩
  · subst ei
    refine wk.of ?_
    have ol := offs_len (mk := mk) w
    have eo : ((List.range (lcmN w0 w1)).filter fun k : Nat => fitB w0 w1 (shift mk k)) = offs w0 w1 mk := rfl
    rw [eo] at et
    simp only [r1__law_clock_is_right, G3.wpSs, G3.wpS, G3.wpE, G3.wpEL, G3.wpO, G3.wpTO, G3.wpT, G3.wpAnd, G3.wpOr, G3.wpAndT, G3.wpOrT, G3.wpI, G3.wpG, G3.wpGs, G3.wipe3, G3.st3, G3.bi3, G3.me3, G3.Me.ty, G3.rets, some3_some, some3_none, atI0, atI1, atI2, atI3, ix3_tup, ix3_cl, getR3_ref, len3_tup, len3_cl, G3.add_int, add_tup, G3.sub_int, G3.mul_int, fdiv_int, G3.mod_int, pow_int, shl_int, aadd_int, asub_int, G3.eq_int, G3.ne_int, G3.lt_int, G3.le_int, G3.gt_int, G3.ge_int, isN_, notN_, inn_, nin_, in3_tup, isNon_int, isNon_non, isNon_tup, isNon_ref, isB3_bl, isI_int, one_, two_, tru_bl, tru_int, tru_non, tru_tup, int3_int, int3_bl, seqAt_tup, listAt_cl, list3_tup, sl3_tup, sl3_cl, neg3_int, seqI_tup, seqI_cl, zip3_tup, chain_t, chain_f, Option.bind_some, List.map_cons, List.map_nil, List.length_cons, List.length_nil, List.length_map, List.length_replicate, List.length_append, List.replicate, List.cons_append, List.nil_append, List.append_nil, Nat.sub_self, List.getElem?_cons_zero, List.getElem?_cons_succ, List.set_cons_zero, List.set_cons_succ, Nat.reduceAdd, Nat.reduceSub, Nat.zero_add, Option.getD_some, Bool.not_true, Bool.not_false, if_true, if_false, ite_true, ite_false, Bool.false_eq_true, reduceIte, decide_eq_true_eq, true_and, and_true]
    refine ⟨w0, w1, mk, rfl, w, hl, ?_⟩
    simp only [seqAt_ref et, G3.wpSs, G3.wpS, G3.wpE, G3.wpEL, G3.wpO, G3.wpTO, G3.wpT, G3.wpAnd, G3.wpOr, G3.wpAndT, G3.wpOrT, G3.wpI, G3.wpG, G3.wpGs, G3.wipe3, G3.st3, G3.bi3, G3.me3, G3.Me.ty, G3.rets, some3_some, some3_none, atI0, atI1, atI2, atI3, ix3_tup, ix3_cl, getR3_ref, len3_tup, len3_cl, G3.add_int, add_tup, G3.sub_int, G3.mul_int, fdiv_int, G3.mod_int, pow_int, shl_int, aadd_int, asub_int, G3.eq_int, G3.ne_int, G3.lt_int, G3.le_int, G3.gt_int, G3.ge_int, isN_, notN_, inn_, nin_, in3_tup, isNon_int, isNon_non, isNon_tup, isNon_ref, isB3_bl, isI_int, one_, two_, tru_bl, tru_int, tru_non, tru_tup, int3_int, int3_bl, seqAt_tup, listAt_cl, list3_tup, sl3_tup, sl3_cl, neg3_int, seqI_tup, seqI_cl, zip3_tup, chain_t, chain_f, Option.bind_some, List.map_cons, List.map_nil, List.length_cons, List.length_nil, List.length_map, List.length_replicate, List.length_append, List.replicate, List.cons_append, List.nil_append, List.append_nil, Nat.sub_self, List.getElem?_cons_zero, List.getElem?_cons_succ, List.set_cons_zero, List.set_cons_succ, Nat.reduceAdd, Nat.reduceSub, Nat.zero_add, Option.getD_some, Bool.not_true, Bool.not_false, if_true, if_false, ite_true, ite_false, Bool.false_eq_true, reduceIte, decide_eq_true_eq, true_and, and_true]
    refine same3_ints (by omega) ?_
    simp only [r2__law_clock_is_right, seqI_ref et, G3.wpSs, G3.wpS, G3.wpE, G3.wpEL, G3.wpO, G3.wpTO, G3.wpT, G3.wpAnd, G3.wpOr, G3.wpAndT, G3.wpOrT, G3.wpI, G3.wpG, G3.wpGs, G3.wipe3, G3.st3, G3.bi3, G3.me3, G3.Me.ty, G3.rets, some3_some, some3_none, atI0, atI1, atI2, atI3, ix3_tup, ix3_cl, getR3_ref, len3_tup, len3_cl, G3.add_int, add_tup, G3.sub_int, G3.mul_int, fdiv_int, G3.mod_int, pow_int, shl_int, aadd_int, asub_int, G3.eq_int, G3.ne_int, G3.lt_int, G3.le_int, G3.gt_int, G3.ge_int, isN_, notN_, inn_, nin_, in3_tup, isNon_int, isNon_non, isNon_tup, isNon_ref, isB3_bl, isI_int, one_, two_, tru_bl, tru_int, tru_non, tru_tup, int3_int, int3_bl, seqAt_tup, listAt_cl, list3_tup, sl3_tup, sl3_cl, neg3_int, seqI_tup, seqI_cl, zip3_tup, chain_t, chain_f, Option.bind_some, List.map_cons, List.map_nil, List.length_cons, List.length_nil, List.length_map, List.length_replicate, List.length_append, List.replicate, List.cons_append, List.nil_append, List.append_nil, Nat.sub_self, List.getElem?_cons_zero, List.getElem?_cons_succ, List.set_cons_zero, List.set_cons_succ, Nat.reduceAdd, Nat.reduceSub, Nat.zero_add, Option.getD_some, Bool.not_true, Bool.not_false, if_true, if_false, ite_true, ite_false, Bool.false_eq_true, reduceIte, decide_eq_true_eq, true_and, and_true]
    refine lc_mp (fun k : Nat => D.int k) (offs w0 w1 mk) (fun k : Nat => .int (hgt w0 w1 (hour + k))) (fun M' sb => sb _ _ et) (fun k hk M' sb Qe hh => ?_) (by rw [sline]; omega) ?_
    · simp only [G3.wpSs, G3.wpS, G3.wpE, G3.wpEL, G3.wpO, G3.wpTO, G3.wpT, G3.wpAnd, G3.wpOr, G3.wpAndT, G3.wpOrT, G3.wpI, G3.wpG, G3.wpGs, G3.wipe3, G3.st3, G3.bi3, G3.me3, G3.Me.ty, G3.rets, some3_some, some3_none, atI0, atI1, atI2, atI3, ix3_tup, ix3_cl, getR3_ref, len3_tup, len3_cl, G3.add_int, add_tup, G3.sub_int, G3.mul_int, fdiv_int, G3.mod_int, pow_int, shl_int, aadd_int, asub_int, G3.eq_int, G3.ne_int, G3.lt_int, G3.le_int, G3.gt_int, G3.ge_int, isN_, notN_, inn_, nin_, in3_tup, isNon_int, isNon_non, isNon_tup, isNon_ref, isB3_bl, isI_int, one_, two_, tru_bl, tru_int, tru_non, tru_tup, int3_int, int3_bl, seqAt_tup, listAt_cl, list3_tup, sl3_tup, sl3_cl, neg3_int, seqI_tup, seqI_cl, zip3_tup, chain_t, chain_f, Option.bind_some, List.map_cons, List.map_nil, List.length_cons, List.length_nil, List.length_map, List.length_replicate, List.length_append, List.replicate, List.cons_append, List.nil_append, List.append_nil, Nat.sub_self, List.getElem?_cons_zero, List.getElem?_cons_succ, List.set_cons_zero, List.set_cons_succ, Nat.reduceAdd, Nat.reduceSub, Nat.zero_add, Option.getD_some, Bool.not_true, Bool.not_false, if_true, if_false, ite_true, ite_false, Bool.false_eq_true, reduceIte, decide_eq_true_eq, true_and, and_true]
      exact ⟨w0, w1, _, rfl, w.h0, w.h1, hh _ .refl⟩
    · rw [show ((offs w0 w1 mk).map fun k : Nat => D.int (hgt w0 w1 (hour + k))) = (hts w0 w1 mk hour).map .int by unfold hts; rw [List.map_map]; rfl]
      intro r hr
      have e6 := put_same (M := M1) (a := r) (o := .lst ((hts w0 w1 mk hour).map .int))
      have sb2 := sb.trans (Sub.new (o := .lst ((hts w0 w1 mk hour).map .int)) hr)
      generalize put M1 r (.lst ((hts w0 w1 mk hour).map .int)) = M2 at *
      simp only [r3__law_clock_is_right, len3_ref e6, listAt_ref e6, ints_map, ix3_ref e6, G3.wpSs, G3.wpS, G3.wpE, G3.wpEL, G3.wpO, G3.wpTO, G3.wpT, G3.wpAnd, G3.wpOr, G3.wpAndT, G3.wpOrT, G3.wpI, G3.wpG, G3.wpGs, G3.wipe3, G3.st3, G3.bi3, G3.me3, G3.Me.ty, G3.rets, some3_some, some3_none, atI0, atI1, atI2, atI3, ix3_tup, ix3_cl, getR3_ref, len3_tup, len3_cl, G3.add_int, add_tup, G3.sub_int, G3.mul_int, fdiv_int, G3.mod_int, pow_int, shl_int, aadd_int, asub_int, G3.eq_int, G3.ne_int, G3.lt_int, G3.le_int, G3.gt_int, G3.ge_int, isN_, notN_, inn_, nin_, in3_tup, isNon_int, isNon_non, isNon_tup, isNon_ref, isB3_bl, isI_int, one_, two_, tru_bl, tru_int, tru_non, tru_tup, int3_int, int3_bl, seqAt_tup, listAt_cl, list3_tup, sl3_tup, sl3_cl, neg3_int, seqI_tup, seqI_cl, zip3_tup, chain_t, chain_f, Option.bind_some, List.map_cons, List.map_nil, List.length_cons, List.length_nil, List.length_map, List.length_replicate, List.length_append, List.replicate, List.cons_append, List.nil_append, List.append_nil, Nat.sub_self, List.getElem?_cons_zero, List.getElem?_cons_succ, List.set_cons_zero, List.set_cons_succ, Nat.reduceAdd, Nat.reduceSub, Nat.zero_add, Option.getD_some, Bool.not_true, Bool.not_false, if_true, if_false, ite_true, ite_false, Bool.false_eq_true, reduceIte, decide_eq_true_eq, true_and, and_true]
      have fin : sp_clock_height [whl w0 w1, encM mk, .int hour] M2 fun d M3 => sp__law_same 3 [d, clk (hts w0 w1 mk hour)] M3 fun d M' => wk (Q d) M' := by
        refine ⟨w0, w1, mk, hour, rfl, w, hl, ?_⟩
        refine same3 ?_ (wk_sub sb2 q)
        cases hts w0 w1 mk hour with
        | nil => trivial
        | cons h t => rw [clk_cons]; split <;> trivial
      generalize hts w0 w1 mk hour = hs at *
      cases hs with
      | nil =>
        rw [if_neg (by simp)]
        exact fin
      | cons h t =>
        rw [if_pos (by simp only [List.length_cons]; omega)]
        refine ⟨by simp, by simp, ?_⟩
        by_cases c : minI (h :: t) = maxI (h :: t)
        · rw [if_pos c]
          rw [clk_cons, if_pos c] at fin
          simp only [G3.wpSs, G3.wpS, G3.wpE, G3.wpEL, G3.wpO, G3.wpTO, G3.wpT, G3.wpAnd, G3.wpOr, G3.wpAndT, G3.wpOrT, G3.wpI, G3.wpG, G3.wpGs, G3.wipe3, G3.st3, G3.bi3, G3.me3, G3.Me.ty, G3.rets, some3_some, some3_none, atI0, atI1, atI2, atI3, ix3_tup, ix3_cl, getR3_ref, len3_tup, len3_cl, G3.add_int, add_tup, G3.sub_int, G3.mul_int, fdiv_int, G3.mod_int, pow_int, shl_int, aadd_int, asub_int, G3.eq_int, G3.ne_int, G3.lt_int, G3.le_int, G3.gt_int, G3.ge_int, isN_, notN_, inn_, nin_, in3_tup, isNon_int, isNon_non, isNon_tup, isNon_ref, isB3_bl, isI_int, one_, two_, tru_bl, tru_int, tru_non, tru_tup, int3_int, int3_bl, seqAt_tup, listAt_cl, list3_tup, sl3_tup, sl3_cl, neg3_int, seqI_tup, seqI_cl, zip3_tup, chain_t, chain_f, Option.bind_some, List.map_cons, List.map_nil, List.length_cons, List.length_nil, List.length_map, List.length_replicate, List.length_append, List.replicate, List.cons_append, List.nil_append, List.append_nil, Nat.sub_self, List.getElem?_cons_zero, List.getElem?_cons_succ, List.set_cons_zero, List.set_cons_succ, Nat.reduceAdd, Nat.reduceSub, Nat.zero_add, Option.getD_some, Bool.not_true, Bool.not_false, if_true, if_false, ite_true, ite_false, Bool.false_eq_true, reduceIte, decide_eq_true_eq, true_and, and_true]
          exact fin
        · rw [if_neg c]
          rw [clk_cons, if_neg c] at fin
          exact fin
end K82
set_option Elab.async false
set_option linter.all false
set_option maxRecDepth 100000
set_option maxHeartbeats 4000000
namespace K82
open G3 L2 G3w
/-- [.. draw .. for .. in ds] -/
theorem lc_drawG {β : Type} (enc : β → D) {a : Addr} {xs0 : List Int} {ds : List D} {tn : Tn} {vs : List Nat} {te : TE3} {τ : S3} {M1 : Mp} {Q : K3} {keep : Mp → Prop} (hk : ∀ M, keep M ∨ ∃ p l, p ≠ a ∧ M1 p = some l ∧ (M p = some l → keep M)) (e : M1 a = some (.lst (xs0.map .int)))
    (hf : ∀ (i : Nat) (d : D), ds[i]? = some d → ∀ (xs : List Int) (M : Mp), M a = some (.lst (xs.map .int)) → ∀ Qe : K3, (∀ (b : β) (xs' : List Int), Qe (enc b) (put M a (.lst (xs'.map .int)))) → wpG tn d M (wipe3 τ vs) fun τ2 => te τ2 M Qe)
    (hn : ds.length < 16777216)
    (hQ : ∀ (bs : List β) (xs : List Int), bs.length = ds.length → ∀ p, M1 p = none → Q (.ref p) (put (put M1 a (.lst (xs.map .int))) p (.lst (bs.map enc)))) :
    lcW ds keep tn vs (fun _ M Q => Q true M) te τ M1 Q := by
  intro p hp
  have hap : a ≠ p := fun z => by subst z; rw [hp] at e; cases e
  refine ⟨fun i acc M => ∃ (bs : List β) (xs : List Int), bs.length = i ∧ acc = bs.map enc ∧ M = put (put M1 a (.lst (xs.map .int))) p (.lst acc), ⟨[], xs0, rfl, rfl, by rw [put_self e]⟩, ?_⟩
  rintro i acc M ⟨bs, xs, hr, rfl, rfl⟩ hi
  refine ⟨?_, put_same, fun d hd => ?_, fun ei => ?_⟩
  · rcases hk (put (put M1 a (.lst (xs.map .int))) p (.lst (bs.map enc))) with h | ⟨p', l, h1, h2, h3⟩
    · exact h
    · refine h3 ?_
      rw [put_ne (fun z => by subst z; rw [hp] at h2; cases h2), put_ne h1]; exact h2
  · have hi2 : i < ds.length := (List.getElem?_eq_some_iff.mp hd).1
    simp only [if_true]
    refine hf i d hd xs _ (by rw [put_ne hap, put_same]) _ fun b xs' => ⟨by rw [List.length_map, sline]; omega, by rw [put_ne (Ne.symm hap), put_same], wk.of ⟨bs ++ [b], xs', by rw [List.length_append, hr]; rfl, by rw [List.map_append]; rfl, ?_⟩⟩
    rw [put_comm (Ne.symm hap), put_put, put_put]
  · exact wk.of (hQ bs xs (by omega) p hp)
theorem tide_step {M : Mp} {a : Addr} {xs : List Int} {p q : Nat} {Q : K3} (e : M a = some (.lst (xs.map .int))) (hp : p ≤ 100) (hq : q ≤ 100) (h : ∀ w0 w1 xs' : List Int, w0.length = p → w1.length = q → Q (whl w0 w1) (put M a (.lst (xs'.map .int)))) : sp_wheels [.ref a, .int p, .int q] M Q := ⟨a, xs, p, q, rfl, e, hp, hq, h⟩
theorem per_step {M : Mp} {mk : Mk} {most : Nat} {Q : K3} (h1 : most ≤ 100) (h2 : mk.length ≤ 1000) (q : Q (.bl true) M) : sp__law_periods_are_right [encM mk, .int most] M Q := ⟨mk, most, rfl, h1, h2, q⟩
theorem clock_step {M : Mp} {w0 w1 : List Int} {mk : Mk} {hour : Int} {Q : K3} (w : Wh w0 w1) (h2 : mk.length ≤ 1000) (q : Q (.bl true) M) : sp__law_clock_is_right [whl w0 w1, encM mk, .int hour] M Q := ⟨w0, w1, mk, hour, rfl, w, h2, q⟩
theorem MulOk_small' {i : Int} {j : Int} (h : -100 ≤ i ∧ i ≤ 100) : MulOk i j := .inl ⟨by omega, by omega⟩
def sp_law : Sp3 := fun ds M Q => ∃ ns : List Int, ds = [.cl (ns.map .int)] ∧ ns.length ≤ 63 ∧ Q (.bl true) M
def lawS (ns : List Int) (a : Addr) (y2 y3 y4 y5 y6 y7 y8 y9 y10 y11 y12 y13 y14 y15 y16 : Option D) : S3 := [some (.cl (ns.map .int)), some (.ref a), y2, y3, y4, y5, y6, y7, y8, y9, y10, y11, y12, y13, y14, y15, y16]
theorem second_part {M : Mp} {Q : K3} {a : Addr} {ns : List Int} (q : Q (.bl true) M) (ha : M a = none) : ∀ (M' : Mp), Go M a M' → ∀ y2 y3 y4 y5 y6 y7 y8 y9 y10 y11 y12 y13 y14 y15 y16, G3.wpSs (r2_law sp__law_clock_is_right sp__law_pick sp__law_tide_hour sp_height_at sp__law_take sp__law_periods_are_right sp__law_tide_marks sp_wheels sp__law_draws) (rets Q) [some (.cl (ns.map .int)), some (.ref a), y2, y3, y4, y5, y6, y7, y8, y9, y10, y11, y12, y13, y14, y15, y16] M' := by
  intro M0 go0 z2 z3 z4 z5 z6 z7 z8 z9 z10 z11 z12 z13 z14 z15 z16
  simp only [r2_law, G3.wpSs, G3.wpS, G3.wpE, G3.wpEL, G3.wpO, G3.wpTO, G3.wpT, G3.wpAnd, G3.wpOr, G3.wpAndT, G3.wpOrT, G3.wpI, G3.wpG, G3.wpGs, G3.wipe3, G3.st3, G3.bi3, G3.me3, G3.Me.ty, G3.rets, some3_some, some3_none, atI0, atI1, atI2, atI3, ix3_tup, ix3_cl, getR3_ref, len3_tup, len3_cl, G3.add_int, add_tup, G3.sub_int, G3.mul_int, fdiv_int, G3.mod_int, pow_int, shl_int, aadd_int, asub_int, G3.eq_int, G3.ne_int, G3.lt_int, G3.le_int, G3.gt_int, G3.ge_int, isN_, notN_, inn_, nin_, in3_tup, isNon_int, isNon_non, isNon_tup, isNon_ref, isB3_bl, isI_int, one_, two_, tru_bl, tru_int, tru_non, tru_tup, int3_int, int3_bl, seqAt_tup, listAt_cl, list3_tup, sl3_tup, sl3_cl, neg3_int, seqI_tup, seqI_cl, zip3_tup, chain_t, chain_f, Option.bind_some, List.map_cons, List.map_nil, List.length_cons, List.length_nil, List.length_map, List.length_replicate, List.length_append, List.replicate, List.cons_append, List.nil_append, List.append_nil, Nat.sub_self, List.getElem?_cons_zero, List.getElem?_cons_succ, List.set_cons_zero, List.set_cons_succ, Nat.reduceAdd, Nat.reduceSub, Nat.zero_add, Option.getD_some, Bool.not_true, Bool.not_false, if_true, if_false, ite_true, ite_false, Bool.false_eq_true, reduceIte, decide_eq_true_eq, true_and, and_true]
  refine ⟨by decide, by decide, fun i τ M' => ∃ y2 y3 y4 y5 y6 y7 y8 y9 y10 y11 y12 y13 y14 y15 y16, τ = lawS ns a y2 y3 y4 y5 y6 y7 y8 y9 y10 y11 y12 y13 y14 y15 y16 ∧ Go M a M', ⟨_, _, _, _, _, _, _, _, _, _, _, _, _, _, _, rfl, go0⟩, ?_⟩
  rintro i τ M1 ⟨y2, y3, y4, y5, y6, y7, y8, y9, y10, y11, y12, y13, y14, y15, y16, rfl, go⟩ hi
  rw [rgD_length] at hi ⊢
  refine ⟨trivial, fun d hd => ?_, fun ei => ?_⟩
  · obtain ⟨hi2, rfl⟩ := rgD_get hd
    obtain ⟨xs1, e1⟩ := go.at
    simp only [lawS, G3.wpSs, G3.wpS, G3.wpE, G3.wpEL, G3.wpO, G3.wpTO, G3.wpT, G3.wpAnd, G3.wpOr, G3.wpAndT, G3.wpOrT, G3.wpI, G3.wpG, G3.wpGs, G3.wipe3, G3.st3, G3.bi3, G3.me3, G3.Me.ty, G3.rets, some3_some, some3_none, atI0, atI1, atI2, atI3, ix3_tup, ix3_cl, getR3_ref, len3_tup, len3_cl, G3.add_int, add_tup, G3.sub_int, G3.mul_int, fdiv_int, G3.mod_int, pow_int, shl_int, aadd_int, asub_int, G3.eq_int, G3.ne_int, G3.lt_int, G3.le_int, G3.gt_int, G3.ge_int, isN_, notN_, inn_, nin_, in3_tup, isNon_int, isNon_non, isNon_tup, isNon_ref, isB3_bl, isI_int, one_, two_, tru_bl, tru_int, tru_non, tru_tup, int3_int, int3_bl, seqAt_tup, listAt_cl, list3_tup, sl3_tup, sl3_cl, neg3_int, seqI_tup, seqI_cl, zip3_tup, chain_t, chain_f, Option.bind_some, List.map_cons, List.map_nil, List.length_cons, List.length_nil, List.length_map, List.length_replicate, List.length_append, List.replicate, List.cons_append, List.nil_append, List.append_nil, Nat.sub_self, List.getElem?_cons_zero, List.getElem?_cons_succ, List.set_cons_zero, List.set_cons_succ, Nat.reduceAdd, Nat.reduceSub, Nat.zero_add, Option.getD_some, Bool.not_true, Bool.not_false, if_true, if_false, ite_true, ite_false, Bool.false_eq_true, reduceIte, decide_eq_true_eq, true_and, and_true]
    refine take_step e1 (by decide) fun p xs2 p0 p1 => ?_
    simp only [G3.add_int]
    refine take_step (m := 6) put_same (by decide) fun q' xs3 q0 q1 => ?_
    obtain ⟨p, rfl⟩ := Int.eq_ofNat_of_zero_le p0
    obtain ⟨q', rfl⟩ := Int.eq_ofNat_of_zero_le q0
    simp only [put_as, G3.add_int]
    rw [show ((1 : Int) + (p : Nat)) = ((p + 1 : Nat) : Int) by omega, show ((1 : Int) + (q' : Nat)) = ((q' + 1 : Nat) : Int) by omega]
    have hp : p + 1 ≤ 6 := by omega
    have hq : q' + 1 ≤ 6 := by omega
    have hp0 : 0 < p + 1 := by omega
    have hq0 : 0 < q' + 1 := by omega
    generalize p + 1 = p at *
    generalize q' + 1 = q' at *
    have g3 := go.put xs3
    have e3 := put_same (M := M1) (a := a) (o := .lst (xs3.map .int))
    generalize put M1 a (.lst (xs3.map .int)) = M3 at *
    refine ⟨by unfold CPow; decide, fun c hc => ?_⟩
    have hca := Go.ne e3 hc
    have e5 := put_keep (o' := .lst [.int 1, .int 1, .int (10 ^ Int.toNat 30)]) e3 hc
    have g5 := g3.sub (.new (o := .lst [.int 1, .int 1, .int (10 ^ Int.toNat 30)]) hc)
    have ec := put_same (M := M3) (a := c) (o := .lst [.int 1, .int 1, .int (10 ^ Int.toNat 30)])
    generalize put M3 c (.lst [.int 1, .int 1, .int (10 ^ Int.toNat 30)]) = M5 at *
    refine pick_step e5 ec (Ne.symm hca) (by simp) fun sc xs6 hsc => ?_
    have hz : ∃ z, sc = .int z := by
      simp only [List.mem_cons, List.not_mem_nil, or_false] at hsc
      rcases hsc with rfl | rfl | rfl <;> exact ⟨_, rfl⟩
    obtain ⟨sc, rfl⟩ := hz
    have g6 := g5.put xs6
    have e6 := put_same (M := M5) (a := a) (o := .lst (xs6.map .int))
    generalize put M5 a (.lst (xs6.map .int)) = M6 at *
    simp only [G3.wpSs, G3.wpS, G3.wpE, G3.wpEL, G3.wpO, G3.wpTO, G3.wpT, G3.wpAnd, G3.wpOr, G3.wpAndT, G3.wpOrT, G3.wpI, G3.wpG, G3.wpGs, G3.wipe3, G3.st3, G3.bi3, G3.me3, G3.Me.ty, G3.rets, some3_some, some3_none, atI0, atI1, atI2, atI3, ix3_tup, ix3_cl, getR3_ref, len3_tup, len3_cl, G3.add_int, add_tup, G3.sub_int, G3.mul_int, fdiv_int, G3.mod_int, pow_int, shl_int, aadd_int, asub_int, G3.eq_int, G3.ne_int, G3.lt_int, G3.le_int, G3.gt_int, G3.ge_int, isN_, notN_, inn_, nin_, in3_tup, isNon_int, isNon_non, isNon_tup, isNon_ref, isB3_bl, isI_int, one_, two_, tru_bl, tru_int, tru_non, tru_tup, int3_int, int3_bl, seqAt_tup, listAt_cl, list3_tup, sl3_tup, sl3_cl, neg3_int, seqI_tup, seqI_cl, zip3_tup, chain_t, chain_f, Option.bind_some, List.map_cons, List.map_nil, List.length_cons, List.length_nil, List.length_map, List.length_replicate, List.length_append, List.replicate, List.cons_append, List.nil_append, List.append_nil, Nat.sub_self, List.getElem?_cons_zero, List.getElem?_cons_succ, List.set_cons_zero, List.set_cons_succ, Nat.reduceAdd, Nat.reduceSub, Nat.zero_add, Option.getD_some, Bool.not_true, Bool.not_false, if_true, if_false, ite_true, ite_false, Bool.false_eq_true, reduceIte, decide_eq_true_eq, true_and, and_true]
    refine ⟨by omega, by omega, ?_⟩
    refine lc_drawG D.int (fun _ => .inl trivial) e6 (fun i d hd xs M' e' Qe k => ?_) (by rw [rgD_length]; omega) fun w0 xs7 hw0 p7 hp7 => ?_
    · obtain ⟨_, rfl⟩ := rgD_get hd
      simp only [G3.wpSs, G3.wpS, G3.wpE, G3.wpEL, G3.wpO, G3.wpTO, G3.wpT, G3.wpAnd, G3.wpOr, G3.wpAndT, G3.wpOrT, G3.wpI, G3.wpG, G3.wpGs, G3.wipe3, G3.st3, G3.bi3, G3.me3, G3.Me.ty, G3.rets, some3_some, some3_none, atI0, atI1, atI2, atI3, ix3_tup, ix3_cl, getR3_ref, len3_tup, len3_cl, G3.add_int, add_tup, G3.sub_int, G3.mul_int, fdiv_int, G3.mod_int, pow_int, shl_int, aadd_int, asub_int, G3.eq_int, G3.ne_int, G3.lt_int, G3.le_int, G3.gt_int, G3.ge_int, isN_, notN_, inn_, nin_, in3_tup, isNon_int, isNon_non, isNon_tup, isNon_ref, isB3_bl, isI_int, one_, two_, tru_bl, tru_int, tru_non, tru_tup, int3_int, int3_bl, seqAt_tup, listAt_cl, list3_tup, sl3_tup, sl3_cl, neg3_int, seqI_tup, seqI_cl, zip3_tup, chain_t, chain_f, Option.bind_some, List.map_cons, List.map_nil, List.length_cons, List.length_nil, List.length_map, List.length_replicate, List.length_append, List.replicate, List.cons_append, List.nil_append, List.append_nil, Nat.sub_self, List.getElem?_cons_zero, List.getElem?_cons_succ, List.set_cons_zero, List.set_cons_succ, Nat.reduceAdd, Nat.reduceSub, Nat.zero_add, Option.getD_some, Bool.not_true, Bool.not_false, if_true, if_false, ite_true, ite_false, Bool.false_eq_true, reduceIte, decide_eq_true_eq, true_and, and_true]
      refine take_step e' (by decide) fun r xs' r0 r1 => ?_
      simp only [G3.wpSs, G3.wpS, G3.wpE, G3.wpEL, G3.wpO, G3.wpTO, G3.wpT, G3.wpAnd, G3.wpOr, G3.wpAndT, G3.wpOrT, G3.wpI, G3.wpG, G3.wpGs, G3.wipe3, G3.st3, G3.bi3, G3.me3, G3.Me.ty, G3.rets, some3_some, some3_none, atI0, atI1, atI2, atI3, ix3_tup, ix3_cl, getR3_ref, len3_tup, len3_cl, G3.add_int, add_tup, G3.sub_int, G3.mul_int, fdiv_int, G3.mod_int, pow_int, shl_int, aadd_int, asub_int, G3.eq_int, G3.ne_int, G3.lt_int, G3.le_int, G3.gt_int, G3.ge_int, isN_, notN_, inn_, nin_, in3_tup, isNon_int, isNon_non, isNon_tup, isNon_ref, isB3_bl, isI_int, one_, two_, tru_bl, tru_int, tru_non, tru_tup, int3_int, int3_bl, seqAt_tup, listAt_cl, list3_tup, sl3_tup, sl3_cl, neg3_int, seqI_tup, seqI_cl, zip3_tup, chain_t, chain_f, Option.bind_some, List.map_cons, List.map_nil, List.length_cons, List.length_nil, List.length_map, List.length_replicate, List.length_append, List.replicate, List.cons_append, List.nil_append, List.append_nil, Nat.sub_self, List.getElem?_cons_zero, List.getElem?_cons_succ, List.set_cons_zero, List.set_cons_succ, Nat.reduceAdd, Nat.reduceSub, Nat.zero_add, Option.getD_some, Bool.not_true, Bool.not_false, if_true, if_false, ite_true, ite_false, Bool.false_eq_true, reduceIte, decide_eq_true_eq, true_and, and_true]
      exact ⟨MulOk_small (by omega) (by omega), k _ xs'⟩
    rw [rgD_length, Int.toNat_natCast] at hw0
    have hpa := Go.ne e6 hp7
    simp only [seqAt_ref put_same, G3.wpSs, G3.wpS, G3.wpE, G3.wpEL, G3.wpO, G3.wpTO, G3.wpT, G3.wpAnd, G3.wpOr, G3.wpAndT, G3.wpOrT, G3.wpI, G3.wpG, G3.wpGs, G3.wipe3, G3.st3, G3.bi3, G3.me3, G3.Me.ty, G3.rets, some3_some, some3_none, atI0, atI1, atI2, atI3, ix3_tup, ix3_cl, getR3_ref, len3_tup, len3_cl, G3.add_int, add_tup, G3.sub_int, G3.mul_int, fdiv_int, G3.mod_int, pow_int, shl_int, aadd_int, asub_int, G3.eq_int, G3.ne_int, G3.lt_int, G3.le_int, G3.gt_int, G3.ge_int, isN_, notN_, inn_, nin_, in3_tup, isNon_int, isNon_non, isNon_tup, isNon_ref, isB3_bl, isI_int, one_, two_, tru_bl, tru_int, tru_non, tru_tup, int3_int, int3_bl, seqAt_tup, listAt_cl, list3_tup, sl3_tup, sl3_cl, neg3_int, seqI_tup, seqI_cl, zip3_tup, chain_t, chain_f, Option.bind_some, List.map_cons, List.map_nil, List.length_cons, List.length_nil, List.length_map, List.length_replicate, List.length_append, List.replicate, List.cons_append, List.nil_append, List.append_nil, Nat.sub_self, List.getElem?_cons_zero, List.getElem?_cons_succ, List.set_cons_zero, List.set_cons_succ, Nat.reduceAdd, Nat.reduceSub, Nat.zero_add, Option.getD_some, Bool.not_true, Bool.not_false, if_true, if_false, ite_true, ite_false, Bool.false_eq_true, reduceIte, decide_eq_true_eq, true_and, and_true]
    have g7 := (g6.put xs7).sub (.new (o := .lst (w0.map .int)) (by rw [put_ne hpa]; exact hp7))
    have e7 : put (put M6 a (.lst (xs7.map .int))) p7 (.lst (w0.map .int)) a = some (.lst (xs7.map .int)) := by rw [put_ne (Ne.symm hpa), put_same]
    generalize put (put M6 a (.lst (xs7.map .int))) p7 (.lst (w0.map .int)) = M7 at *
    refine ⟨by omega, by omega, ?_⟩
    refine lc_drawG D.int (fun _ => .inl trivial) e7 (fun i d hd xs M' e' Qe k => ?_) (by rw [rgD_length]; omega) fun w1 xs8 hw1 p8 hp8 => ?_
    · obtain ⟨_, rfl⟩ := rgD_get hd
      simp only [G3.wpSs, G3.wpS, G3.wpE, G3.wpEL, G3.wpO, G3.wpTO, G3.wpT, G3.wpAnd, G3.wpOr, G3.wpAndT, G3.wpOrT, G3.wpI, G3.wpG, G3.wpGs, G3.wipe3, G3.st3, G3.bi3, G3.me3, G3.Me.ty, G3.rets, some3_some, some3_none, atI0, atI1, atI2, atI3, ix3_tup, ix3_cl, getR3_ref, len3_tup, len3_cl, G3.add_int, add_tup, G3.sub_int, G3.mul_int, fdiv_int, G3.mod_int, pow_int, shl_int, aadd_int, asub_int, G3.eq_int, G3.ne_int, G3.lt_int, G3.le_int, G3.gt_int, G3.ge_int, isN_, notN_, inn_, nin_, in3_tup, isNon_int, isNon_non, isNon_tup, isNon_ref, isB3_bl, isI_int, one_, two_, tru_bl, tru_int, tru_non, tru_tup, int3_int, int3_bl, seqAt_tup, listAt_cl, list3_tup, sl3_tup, sl3_cl, neg3_int, seqI_tup, seqI_cl, zip3_tup, chain_t, chain_f, Option.bind_some, List.map_cons, List.map_nil, List.length_cons, List.length_nil, List.length_map, List.length_replicate, List.length_append, List.replicate, List.cons_append, List.nil_append, List.append_nil, Nat.sub_self, List.getElem?_cons_zero, List.getElem?_cons_succ, List.set_cons_zero, List.set_cons_succ, Nat.reduceAdd, Nat.reduceSub, Nat.zero_add, Option.getD_some, Bool.not_true, Bool.not_false, if_true, if_false, ite_true, ite_false, Bool.false_eq_true, reduceIte, decide_eq_true_eq, true_and, and_true]
      refine take_step e' (by decide) fun r xs' r0 r1 => ?_
      simp only [G3.wpSs, G3.wpS, G3.wpE, G3.wpEL, G3.wpO, G3.wpTO, G3.wpT, G3.wpAnd, G3.wpOr, G3.wpAndT, G3.wpOrT, G3.wpI, G3.wpG, G3.wpGs, G3.wipe3, G3.st3, G3.bi3, G3.me3, G3.Me.ty, G3.rets, some3_some, some3_none, atI0, atI1, atI2, atI3, ix3_tup, ix3_cl, getR3_ref, len3_tup, len3_cl, G3.add_int, add_tup, G3.sub_int, G3.mul_int, fdiv_int, G3.mod_int, pow_int, shl_int, aadd_int, asub_int, G3.eq_int, G3.ne_int, G3.lt_int, G3.le_int, G3.gt_int, G3.ge_int, isN_, notN_, inn_, nin_, in3_tup, isNon_int, isNon_non, isNon_tup, isNon_ref, isB3_bl, isI_int, one_, two_, tru_bl, tru_int, tru_non, tru_tup, int3_int, int3_bl, seqAt_tup, listAt_cl, list3_tup, sl3_tup, sl3_cl, neg3_int, seqI_tup, seqI_cl, zip3_tup, chain_t, chain_f, Option.bind_some, List.map_cons, List.map_nil, List.length_cons, List.length_nil, List.length_map, List.length_replicate, List.length_append, List.replicate, List.cons_append, List.nil_append, List.append_nil, Nat.sub_self, List.getElem?_cons_zero, List.getElem?_cons_succ, List.set_cons_zero, List.set_cons_succ, Nat.reduceAdd, Nat.reduceSub, Nat.zero_add, Option.getD_some, Bool.not_true, Bool.not_false, if_true, if_false, ite_true, ite_false, Bool.false_eq_true, reduceIte, decide_eq_true_eq, true_and, and_true]
      exact ⟨MulOk_small (by omega) (by omega), k _ xs'⟩
    rw [rgD_length, Int.toNat_natCast] at hw1
    have hpb := Go.ne e7 hp8
    simp only [seqAt_ref put_same, G3.wpSs, G3.wpS, G3.wpE, G3.wpEL, G3.wpO, G3.wpTO, G3.wpT, G3.wpAnd, G3.wpOr, G3.wpAndT, G3.wpOrT, G3.wpI, G3.wpG, G3.wpGs, G3.wipe3, G3.st3, G3.bi3, G3.me3, G3.Me.ty, G3.rets, some3_some, some3_none, atI0, atI1, atI2, atI3, ix3_tup, ix3_cl, getR3_ref, len3_tup, len3_cl, G3.add_int, add_tup, G3.sub_int, G3.mul_int, fdiv_int, G3.mod_int, pow_int, shl_int, aadd_int, asub_int, G3.eq_int, G3.ne_int, G3.lt_int, G3.le_int, G3.gt_int, G3.ge_int, isN_, notN_, inn_, nin_, in3_tup, isNon_int, isNon_non, isNon_tup, isNon_ref, isB3_bl, isI_int, one_, two_, tru_bl, tru_int, tru_non, tru_tup, int3_int, int3_bl, seqAt_tup, listAt_cl, list3_tup, sl3_tup, sl3_cl, neg3_int, seqI_tup, seqI_cl, zip3_tup, chain_t, chain_f, Option.bind_some, List.map_cons, List.map_nil, List.length_cons, List.length_nil, List.length_map, List.length_replicate, List.length_append, List.replicate, List.cons_append, List.nil_append, List.append_nil, Nat.sub_self, List.getElem?_cons_zero, List.getElem?_cons_succ, List.set_cons_zero, List.set_cons_succ, Nat.reduceAdd, Nat.reduceSub, Nat.zero_add, Option.getD_some, Bool.not_true, Bool.not_false, if_true, if_false, ite_true, ite_false, Bool.false_eq_true, reduceIte, decide_eq_true_eq, true_and, and_true]
    have g8 := (g7.put xs8).sub (.new (o := .lst (w1.map .int)) (by rw [put_ne hpb]; exact hp8))
    have e8 : put (put M7 a (.lst (xs8.map .int))) p8 (.lst (w1.map .int)) a = some (.lst (xs8.map .int)) := by rw [put_ne (Ne.symm hpb), put_same]
    generalize put (put M7 a (.lst (xs8.map .int))) p8 (.lst (w1.map .int)) = M8 at *
    have w : Wh w0 w1 := ⟨List.length_pos_iff.mp (by omega), List.length_pos_iff.mp (by omega), by omega, by omega⟩
    rw [show D.tup [.tup (w0.map .int), .tup (w1.map .int)] = whl w0 w1 from rfl]
    refine ⟨MulOk_small (by omega) (by omega), ?_⟩
    refine take_step e8 (Int.mul_pos (by omega) (by omega)) fun bh xs9 _ _ => ?_
    have g9 := g8.put xs9
    have e9 := put_same (M := M8) (a := a) (o := .lst (xs9.map .int))
    generalize put M8 a (.lst (xs9.map .int)) = M9 at *
    refine take_step e9 (by decide) fun nh xs10 n0 n1 => ?_
    have g10 := g9.put xs10
    have e10 := put_same (M := M9) (a := a) (o := .lst (xs10.map .int))
    generalize put M9 a (.lst (xs10.map .int)) = M10 at *
    simp only [G3.wpSs, G3.wpS, G3.wpE, G3.wpEL, G3.wpO, G3.wpTO, G3.wpT, G3.wpAnd, G3.wpOr, G3.wpAndT, G3.wpOrT, G3.wpI, G3.wpG, G3.wpGs, G3.wipe3, G3.st3, G3.bi3, G3.me3, G3.Me.ty, G3.rets, some3_some, some3_none, atI0, atI1, atI2, atI3, ix3_tup, ix3_cl, getR3_ref, len3_tup, len3_cl, G3.add_int, add_tup, G3.sub_int, G3.mul_int, fdiv_int, G3.mod_int, pow_int, shl_int, aadd_int, asub_int, G3.eq_int, G3.ne_int, G3.lt_int, G3.le_int, G3.gt_int, G3.ge_int, isN_, notN_, inn_, nin_, in3_tup, isNon_int, isNon_non, isNon_tup, isNon_ref, isB3_bl, isI_int, one_, two_, tru_bl, tru_int, tru_non, tru_tup, int3_int, int3_bl, seqAt_tup, listAt_cl, list3_tup, sl3_tup, sl3_cl, neg3_int, seqI_tup, seqI_cl, zip3_tup, chain_t, chain_f, Option.bind_some, List.map_cons, List.map_nil, List.length_cons, List.length_nil, List.length_map, List.length_replicate, List.length_append, List.replicate, List.cons_append, List.nil_append, List.append_nil, Nat.sub_self, List.getElem?_cons_zero, List.getElem?_cons_succ, List.set_cons_zero, List.set_cons_succ, Nat.reduceAdd, Nat.reduceSub, Nat.zero_add, Option.getD_some, Bool.not_true, Bool.not_false, if_true, if_false, ite_true, ite_false, Bool.false_eq_true, reduceIte, decide_eq_true_eq, true_and, and_true]
    refine ⟨by omega, by omega, ?_⟩
    refine lc_drawG D.int (fun _ => .inl trivial) e10 (fun i d hd xs M' e' Qe k => ?_) (by rw [rgD_length]; omega) fun hs xs11 hhs p11 hp11 => ?_
    · obtain ⟨_, rfl⟩ := rgD_get hd
      simp only [G3.wpSs, G3.wpS, G3.wpE, G3.wpEL, G3.wpO, G3.wpTO, G3.wpT, G3.wpAnd, G3.wpOr, G3.wpAndT, G3.wpOrT, G3.wpI, G3.wpG, G3.wpGs, G3.wipe3, G3.st3, G3.bi3, G3.me3, G3.Me.ty, G3.rets, some3_some, some3_none, atI0, atI1, atI2, atI3, ix3_tup, ix3_cl, getR3_ref, len3_tup, len3_cl, G3.add_int, add_tup, G3.sub_int, G3.mul_int, fdiv_int, G3.mod_int, pow_int, shl_int, aadd_int, asub_int, G3.eq_int, G3.ne_int, G3.lt_int, G3.le_int, G3.gt_int, G3.ge_int, isN_, notN_, inn_, nin_, in3_tup, isNon_int, isNon_non, isNon_tup, isNon_ref, isB3_bl, isI_int, one_, two_, tru_bl, tru_int, tru_non, tru_tup, int3_int, int3_bl, seqAt_tup, listAt_cl, list3_tup, sl3_tup, sl3_cl, neg3_int, seqI_tup, seqI_cl, zip3_tup, chain_t, chain_f, Option.bind_some, List.map_cons, List.map_nil, List.length_cons, List.length_nil, List.length_map, List.length_replicate, List.length_append, List.replicate, List.cons_append, List.nil_append, List.append_nil, Nat.sub_self, List.getElem?_cons_zero, List.getElem?_cons_succ, List.set_cons_zero, List.set_cons_succ, Nat.reduceAdd, Nat.reduceSub, Nat.zero_add, Option.getD_some, Bool.not_true, Bool.not_false, if_true, if_false, ite_true, ite_false, Bool.false_eq_true, reduceIte, decide_eq_true_eq, true_and, and_true]
      exact hour_step e' (by decide) fun r xs' => k r xs'
    rw [rgD_length] at hhs
    have hpc := Go.ne e10 hp11
    have g11 := (g10.put xs11).sub (.new (o := .lst (hs.map .int)) (by rw [put_ne hpc]; exact hp11))
    have e11 : put (put M10 a (.lst (xs11.map .int))) p11 (.lst (hs.map .int)) a = some (.lst (xs11.map .int)) := by rw [put_ne (Ne.symm hpc), put_same]
    have eh : put (put M10 a (.lst (xs11.map .int))) p11 (.lst (hs.map .int)) p11 = some (.lst (hs.map .int)) := put_same
    generalize put (put M10 a (.lst (xs11.map .int))) p11 (.lst (hs.map .int)) = M11 at *
    rw [seqI_ref eh]
    refine lc_mp D.int hs (fun h => mkD (h, hgt w0 w1 (h + bh))) (fun M' sb => sb _ _ eh) (fun h hh M' sb Qe k => ?_) (by rw [sline]; omega) ?_
    · simp only [G3.wpSs, G3.wpS, G3.wpE, G3.wpEL, G3.wpO, G3.wpTO, G3.wpT, G3.wpAnd, G3.wpOr, G3.wpAndT, G3.wpOrT, G3.wpI, G3.wpG, G3.wpGs, G3.wipe3, G3.st3, G3.bi3, G3.me3, G3.Me.ty, G3.rets, some3_some, some3_none, atI0, atI1, atI2, atI3, ix3_tup, ix3_cl, getR3_ref, len3_tup, len3_cl, G3.add_int, add_tup, G3.sub_int, G3.mul_int, fdiv_int, G3.mod_int, pow_int, shl_int, aadd_int, asub_int, G3.eq_int, G3.ne_int, G3.lt_int, G3.le_int, G3.gt_int, G3.ge_int, isN_, notN_, inn_, nin_, in3_tup, isNon_int, isNon_non, isNon_tup, isNon_ref, isB3_bl, isI_int, one_, two_, tru_bl, tru_int, tru_non, tru_tup, int3_int, int3_bl, seqAt_tup, listAt_cl, list3_tup, sl3_tup, sl3_cl, neg3_int, seqI_tup, seqI_cl, zip3_tup, chain_t, chain_f, Option.bind_some, List.map_cons, List.map_nil, List.length_cons, List.length_nil, List.length_map, List.length_replicate, List.length_append, List.replicate, List.cons_append, List.nil_append, List.append_nil, Nat.sub_self, List.getElem?_cons_zero, List.getElem?_cons_succ, List.set_cons_zero, List.set_cons_succ, Nat.reduceAdd, Nat.reduceSub, Nat.zero_add, Option.getD_some, Bool.not_true, Bool.not_false, if_true, if_false, ite_true, ite_false, Bool.false_eq_true, reduceIte, decide_eq_true_eq, true_and, and_true]
      refine ⟨w0, w1, _, rfl, w.h0, w.h1, ?_⟩
      exact k _ .refl
    rw [show (hs.map fun h => mkD (h, hgt w0 w1 (h + bh))) = (hs.map fun h => (h, hgt w0 w1 (h + bh))).map mkD by rw [List.map_map]; rfl]
    have hml : (hs.map fun h => (h, hgt w0 w1 (h + bh))).length ≤ 100 := by rw [List.length_map]; omega
    generalize (hs.map fun h => (h, hgt w0 w1 (h + bh))) = mk at *
    intro p12 hp12
    have e12 := put_keep (o' := .lst (mk.map mkD)) e11 hp12
    have g12 := g11.sub (.new (o := .lst (mk.map mkD)) hp12)
    have em := put_same (M := M11) (a := p12) (o := .lst (mk.map mkD))
    generalize put M11 p12 (.lst (mk.map mkD)) = M12 at *
    simp only [seqAt_ref em, G3.wpSs, G3.wpS, G3.wpE, G3.wpEL, G3.wpO, G3.wpTO, G3.wpT, G3.wpAnd, G3.wpOr, G3.wpAndT, G3.wpOrT, G3.wpI, G3.wpG, G3.wpGs, G3.wipe3, G3.st3, G3.bi3, G3.me3, G3.Me.ty, G3.rets, some3_some, some3_none, atI0, atI1, atI2, atI3, ix3_tup, ix3_cl, getR3_ref, len3_tup, len3_cl, G3.add_int, add_tup, G3.sub_int, G3.mul_int, fdiv_int, G3.mod_int, pow_int, shl_int, aadd_int, asub_int, G3.eq_int, G3.ne_int, G3.lt_int, G3.le_int, G3.gt_int, G3.ge_int, isN_, notN_, inn_, nin_, in3_tup, isNon_int, isNon_non, isNon_tup, isNon_ref, isB3_bl, isI_int, one_, two_, tru_bl, tru_int, tru_non, tru_tup, int3_int, int3_bl, seqAt_tup, listAt_cl, list3_tup, sl3_tup, sl3_cl, neg3_int, seqI_tup, seqI_cl, zip3_tup, chain_t, chain_f, Option.bind_some, List.map_cons, List.map_nil, List.length_cons, List.length_nil, List.length_map, List.length_replicate, List.length_append, List.replicate, List.cons_append, List.nil_append, List.append_nil, Nat.sub_self, List.getElem?_cons_zero, List.getElem?_cons_succ, List.set_cons_zero, List.set_cons_succ, Nat.reduceAdd, Nat.reduceSub, Nat.zero_add, Option.getD_some, Bool.not_true, Bool.not_false, if_true, if_false, ite_true, ite_false, Bool.false_eq_true, reduceIte, decide_eq_true_eq, true_and, and_true]
    refine hour_step e12 (by decide) fun hour xs13 => ?_
    have g13 := g12.put xs13
    have e13 := put_same (M := M12) (a := a) (o := .lst (xs13.map .int))
    generalize put M12 a (.lst (xs13.map .int)) = M13 at *
    refine clock_step (mk := mk) w (by omega) ?_
    simp only [r3_law, G3.wpSs, G3.wpS, G3.wpE, G3.wpEL, G3.wpO, G3.wpTO, G3.wpT, G3.wpAnd, G3.wpOr, G3.wpAndT, G3.wpOrT, G3.wpI, G3.wpG, G3.wpGs, G3.wipe3, G3.st3, G3.bi3, G3.me3, G3.Me.ty, G3.rets, some3_some, some3_none, atI0, atI1, atI2, atI3, ix3_tup, ix3_cl, getR3_ref, len3_tup, len3_cl, G3.add_int, add_tup, G3.sub_int, G3.mul_int, fdiv_int, G3.mod_int, pow_int, shl_int, aadd_int, asub_int, G3.eq_int, G3.ne_int, G3.lt_int, G3.le_int, G3.gt_int, G3.ge_int, isN_, notN_, inn_, nin_, in3_tup, isNon_int, isNon_non, isNon_tup, isNon_ref, isB3_bl, isI_int, one_, two_, tru_bl, tru_int, tru_non, tru_tup, int3_int, int3_bl, seqAt_tup, listAt_cl, list3_tup, sl3_tup, sl3_cl, neg3_int, seqI_tup, seqI_cl, zip3_tup, chain_t, chain_f, Option.bind_some, List.map_cons, List.map_nil, List.length_cons, List.length_nil, List.length_map, List.length_replicate, List.length_append, List.replicate, List.cons_append, List.nil_append, List.append_nil, Nat.sub_self, List.getElem?_cons_zero, List.getElem?_cons_succ, List.set_cons_zero, List.set_cons_succ, Nat.reduceAdd, Nat.reduceSub, Nat.zero_add, Option.getD_some, Bool.not_true, Bool.not_false, if_true, if_false, ite_true, ite_false, Bool.false_eq_true, reduceIte, decide_eq_true_eq, true_and, and_true]
    refine ⟨MulOk_small' (by decide), MulOk_small' (by decide), fun c2 hc2 => ?_⟩
    have hca2 := Go.ne e13 hc2
    refine pick_step (put_keep e13 hc2) put_same (Ne.symm hca2) (by simp) fun wr xs14 hwr => ?_
    have hz : ∃ z, wr = .int z := by
      simp only [List.mem_cons, List.not_mem_nil, or_false] at hwr
      rcases hwr with rfl | rfl | rfl | rfl <;> exact ⟨_, rfl⟩
    obtain ⟨wr, rfl⟩ := hz
    refine ⟨by rw [sline]; omega, ?_⟩
    rw [show D.tup (mk.map mkD ++ [D.tup [.int hour, .int wr]]) = encM (mk ++ [(hour, wr)]) by unfold encM; rw [List.map_append]; rfl]
    refine clock_step w (by rw [List.length_append, List.length_singleton]; omega) ?_
    simp only [G3.wpSs, G3.wpS, G3.wpE, G3.wpEL, G3.wpO, G3.wpTO, G3.wpT, G3.wpAnd, G3.wpOr, G3.wpAndT, G3.wpOrT, G3.wpI, G3.wpG, G3.wpGs, G3.wipe3, G3.st3, G3.bi3, G3.me3, G3.Me.ty, G3.rets, some3_some, some3_none, atI0, atI1, atI2, atI3, ix3_tup, ix3_cl, getR3_ref, len3_tup, len3_cl, G3.add_int, add_tup, G3.sub_int, G3.mul_int, fdiv_int, G3.mod_int, pow_int, shl_int, aadd_int, asub_int, G3.eq_int, G3.ne_int, G3.lt_int, G3.le_int, G3.gt_int, G3.ge_int, isN_, notN_, inn_, nin_, in3_tup, isNon_int, isNon_non, isNon_tup, isNon_ref, isB3_bl, isI_int, one_, two_, tru_bl, tru_int, tru_non, tru_tup, int3_int, int3_bl, seqAt_tup, listAt_cl, list3_tup, sl3_tup, sl3_cl, neg3_int, seqI_tup, seqI_cl, zip3_tup, chain_t, chain_f, Option.bind_some, List.map_cons, List.map_nil, List.length_cons, List.length_nil, List.length_map, List.length_replicate, List.length_append, List.replicate, List.cons_append, List.nil_append, List.append_nil, Nat.sub_self, List.getElem?_cons_zero, List.getElem?_cons_succ, List.set_cons_zero, List.set_cons_succ, Nat.reduceAdd, Nat.reduceSub, Nat.zero_add, Option.getD_some, Bool.not_true, Bool.not_false, if_true, if_false, ite_true, ite_false, Bool.false_eq_true, reduceIte, decide_eq_true_eq, true_and, and_true]
    exact wk.of ⟨_, _, _, _, _, _, _, _, _, _, _, _, _, _, _, rfl, (g13.sub (.new hc2)).put xs14⟩
  · refine wk.of ?_
    simp only [r4_law, lawS, G3.wpSs, G3.wpS, G3.wpE, G3.wpEL, G3.wpO, G3.wpTO, G3.wpT, G3.wpAnd, G3.wpOr, G3.wpAndT, G3.wpOrT, G3.wpI, G3.wpG, G3.wpGs, G3.wipe3, G3.st3, G3.bi3, G3.me3, G3.Me.ty, G3.rets, some3_some, some3_none, atI0, atI1, atI2, atI3, ix3_tup, ix3_cl, getR3_ref, len3_tup, len3_cl, G3.add_int, add_tup, G3.sub_int, G3.mul_int, fdiv_int, G3.mod_int, pow_int, shl_int, aadd_int, asub_int, G3.eq_int, G3.ne_int, G3.lt_int, G3.le_int, G3.gt_int, G3.ge_int, isN_, notN_, inn_, nin_, in3_tup, isNon_int, isNon_non, isNon_tup, isNon_ref, isB3_bl, isI_int, one_, two_, tru_bl, tru_int, tru_non, tru_tup, int3_int, int3_bl, seqAt_tup, listAt_cl, list3_tup, sl3_tup, sl3_cl, neg3_int, seqI_tup, seqI_cl, zip3_tup, chain_t, chain_f, Option.bind_some, List.map_cons, List.map_nil, List.length_cons, List.length_nil, List.length_map, List.length_replicate, List.length_append, List.replicate, List.cons_append, List.nil_append, List.append_nil, Nat.sub_self, List.getElem?_cons_zero, List.getElem?_cons_succ, List.set_cons_zero, List.set_cons_succ, Nat.reduceAdd, Nat.reduceSub, Nat.zero_add, Option.getD_some, Bool.not_true, Bool.not_false, if_true, if_false, ite_true, ite_false, Bool.false_eq_true, reduceIte, decide_eq_true_eq, true_and, and_true]
    have w : Wh [0, 4] [0, 0, 1] := ⟨by simp, by simp, by decide, by decide⟩
    refine clock_step (w0 := [0, 4]) (w1 := [0, 0, 1]) (mk := [(0, 0), (1, 4)]) w (by decide) ?_
    simp only [G3.wpSs, G3.wpS, G3.wpE, G3.wpEL, G3.wpO, G3.wpTO, G3.wpT, G3.wpAnd, G3.wpOr, G3.wpAndT, G3.wpOrT, G3.wpI, G3.wpG, G3.wpGs, G3.wipe3, G3.st3, G3.bi3, G3.me3, G3.Me.ty, G3.rets, some3_some, some3_none, atI0, atI1, atI2, atI3, ix3_tup, ix3_cl, getR3_ref, len3_tup, len3_cl, G3.add_int, add_tup, G3.sub_int, G3.mul_int, fdiv_int, G3.mod_int, pow_int, shl_int, aadd_int, asub_int, G3.eq_int, G3.ne_int, G3.lt_int, G3.le_int, G3.gt_int, G3.ge_int, isN_, notN_, inn_, nin_, in3_tup, isNon_int, isNon_non, isNon_tup, isNon_ref, isB3_bl, isI_int, one_, two_, tru_bl, tru_int, tru_non, tru_tup, int3_int, int3_bl, seqAt_tup, listAt_cl, list3_tup, sl3_tup, sl3_cl, neg3_int, seqI_tup, seqI_cl, zip3_tup, chain_t, chain_f, Option.bind_some, List.map_cons, List.map_nil, List.length_cons, List.length_nil, List.length_map, List.length_replicate, List.length_append, List.replicate, List.cons_append, List.nil_append, List.append_nil, Nat.sub_self, List.getElem?_cons_zero, List.getElem?_cons_succ, List.set_cons_zero, List.set_cons_succ, Nat.reduceAdd, Nat.reduceSub, Nat.zero_add, Option.getD_some, Bool.not_true, Bool.not_false, if_true, if_false, ite_true, ite_false, Bool.false_eq_true, reduceIte, decide_eq_true_eq, true_and, and_true]
    refine ⟨by unfold CPow; decide, ?_⟩
    refine clock_step (w0 := [0, 4]) (w1 := [0, 0, 1]) (mk := [(0, 4)]) w (by decide) ?_
    obtain ⟨xs', sb⟩ := go
    exact wk_sub ((Sub.new ha).trans sb) q
theorem t_law : ∀ ds M Q, sp_law ds M Q → G3.wpSs (b_law sp__law_clock_is_right sp__law_pick sp__law_tide_hour sp_height_at sp__law_take sp__law_periods_are_right sp__law_tide_marks sp_wheels sp__law_draws) (rets Q) (st3 n_law.length ds) M := by
  rintro ds M Q ⟨ns, rfl, hn, q⟩
  simp only [b_law, n_law, G3.wpSs, G3.wpS, G3.wpE, G3.wpEL, G3.wpO, G3.wpTO, G3.wpT, G3.wpAnd, G3.wpOr, G3.wpAndT, G3.wpOrT, G3.wpI, G3.wpG, G3.wpGs, G3.wipe3, G3.st3, G3.bi3, G3.me3, G3.Me.ty, G3.rets, some3_some, some3_none, atI0, atI1, atI2, atI3, ix3_tup, ix3_cl, getR3_ref, len3_tup, len3_cl, G3.add_int, add_tup, G3.sub_int, G3.mul_int, fdiv_int, G3.mod_int, pow_int, shl_int, aadd_int, asub_int, G3.eq_int, G3.ne_int, G3.lt_int, G3.le_int, G3.gt_int, G3.ge_int, isN_, notN_, inn_, nin_, in3_tup, isNon_int, isNon_non, isNon_tup, isNon_ref, isB3_bl, isI_int, one_, two_, tru_bl, tru_int, tru_non, tru_tup, int3_int, int3_bl, seqAt_tup, listAt_cl, list3_tup, sl3_tup, sl3_cl, neg3_int, seqI_tup, seqI_cl, zip3_tup, chain_t, chain_f, Option.bind_some, List.map_cons, List.map_nil, List.length_cons, List.length_nil, List.length_map, List.length_replicate, List.length_append, List.replicate, List.cons_append, List.nil_append, List.append_nil, Nat.sub_self, List.getElem?_cons_zero, List.getElem?_cons_succ, List.set_cons_zero, List.set_cons_succ, Nat.reduceAdd, Nat.reduceSub, Nat.zero_add, Option.getD_some, Bool.not_true, Bool.not_false, if_true, if_false, ite_true, ite_false, Bool.false_eq_true, reduceIte, decide_eq_true_eq, true_and, and_true]
  refine ⟨ns, 600, rfl, hn, by decide, fun xs a ha => ?_⟩
  have ea := put_same (M := M) (a := a) (o := .lst (xs.map .int))
  refine ⟨by decide, by decide, fun i τ M' => ∃ y2 y3 y4 y5 y6 y7 y8 y9 y10 y11 y12 y13 y14 y15 y16, τ = [some (.cl (ns.map .int)), some (.ref a), y2, y3, y4, y5, y6, y7, y8, y9, y10, y11, y12, y13, y14, y15, y16] ∧ Go M a M' ∧ (0 < i → ∃ mk : Mk, mk.length ≤ 1000 ∧ y5 = some (encM mk)), ⟨_, _, _, _, _, _, _, _, _, _, _, _, _, _, _, rfl, ⟨xs, .refl⟩, fun h => absurd h (Nat.lt_irrefl _)⟩, ?_⟩
  rintro i τ M1 ⟨y2, y3, y4, y5, y6, y7, y8, y9, y10, y11, y12, y13, y14, y15, y16, rfl, go, hmk⟩ hi
  rw [rgD_length] at hi ⊢
  refine ⟨trivial, fun d hd => ?_, fun ei => ?_⟩
  · obtain ⟨hi2, rfl⟩ := rgD_get hd
    obtain ⟨xs1, e1⟩ := go.at
    simp only [G3.wpSs, G3.wpS, G3.wpE, G3.wpEL, G3.wpO, G3.wpTO, G3.wpT, G3.wpAnd, G3.wpOr, G3.wpAndT, G3.wpOrT, G3.wpI, G3.wpG, G3.wpGs, G3.wipe3, G3.st3, G3.bi3, G3.me3, G3.Me.ty, G3.rets, some3_some, some3_none, atI0, atI1, atI2, atI3, ix3_tup, ix3_cl, getR3_ref, len3_tup, len3_cl, G3.add_int, add_tup, G3.sub_int, G3.mul_int, fdiv_int, G3.mod_int, pow_int, shl_int, aadd_int, asub_int, G3.eq_int, G3.ne_int, G3.lt_int, G3.le_int, G3.gt_int, G3.ge_int, isN_, notN_, inn_, nin_, in3_tup, isNon_int, isNon_non, isNon_tup, isNon_ref, isB3_bl, isI_int, one_, two_, tru_bl, tru_int, tru_non, tru_tup, int3_int, int3_bl, seqAt_tup, listAt_cl, list3_tup, sl3_tup, sl3_cl, neg3_int, seqI_tup, seqI_cl, zip3_tup, chain_t, chain_f, Option.bind_some, List.map_cons, List.map_nil, List.length_cons, List.length_nil, List.length_map, List.length_replicate, List.length_append, List.replicate, List.cons_append, List.nil_append, List.append_nil, Nat.sub_self, List.getElem?_cons_zero, List.getElem?_cons_succ, List.set_cons_zero, List.set_cons_succ, Nat.reduceAdd, Nat.reduceSub, Nat.zero_add, Option.getD_some, Bool.not_true, Bool.not_false, if_true, if_false, ite_true, ite_false, Bool.false_eq_true, reduceIte, decide_eq_true_eq, true_and, and_true]
    refine take_step e1 (by decide) fun p xs2 p0 p1 => ?_
    simp only [G3.add_int]
    refine take_step (m := 6) put_same (by decide) fun q' xs3 q0 q1 => ?_
    simp only [G3.add_int]
    obtain ⟨p, rfl⟩ := Int.eq_ofNat_of_zero_le p0
    obtain ⟨q', rfl⟩ := Int.eq_ofNat_of_zero_le q0
    simp only [put_as]
    rw [show ((1 : Int) + (p : Nat)) = ((p + 1 : Nat) : Int) by omega, show ((1 : Int) + (q' : Nat)) = ((q' + 1 : Nat) : Int) by omega]
    refine tide_step put_same (by omega) (by omega) fun w0 w1 xs4 hw0 hw1 => ?_
    simp only [put_as]
    have g4 := go.put xs4
    have e4 := put_same (M := M1) (a := a) (o := .lst (xs4.map .int))
    generalize put M1 a (.lst (xs4.map .int)) = M4 at *
    intro c hc
    have hca := Go.ne e4 hc
    have e5 := put_keep (o' := .lst [.int 8, .int 30]) e4 hc
    have g5 := g4.sub (.new (o := .lst [.int 8, .int 30]) hc)
    have ec := put_same (M := M4) (a := c) (o := .lst [.int 8, .int 30])
    generalize put M4 c (.lst [.int 8, .int 30]) = M5 at *
    refine pick_step e5 ec (Ne.symm hca) (by simp) fun few xs6 hfew => ?_
    have hz : ∃ z, few = .int z ∧ 0 < z := by
      simp only [List.mem_cons, List.not_mem_nil, or_false] at hfew
      rcases hfew with rfl | rfl <;> exact ⟨_, rfl, by decide⟩
    obtain ⟨few, rfl, hf0⟩ := hz
    refine ⟨a, xs6, w0, w1, 7, few, rfl, put_same, List.length_pos_iff.mp (by omega), List.length_pos_iff.mp (by omega), by decide, hf0, fun mk xs7 hmk7 => ?_⟩
    simp only [put_as]
    have g7 := g5.put xs7
    have e7 := put_same (M := M5) (a := a) (o := .lst (xs7.map .int))
    generalize put M5 a (.lst (xs7.map .int)) = M7 at *
    unfold encM
    simp only [G3.wpSs, G3.wpS, G3.wpE, G3.wpEL, G3.wpO, G3.wpTO, G3.wpT, G3.wpAnd, G3.wpOr, G3.wpAndT, G3.wpOrT, G3.wpI, G3.wpG, G3.wpGs, G3.wipe3, G3.st3, G3.bi3, G3.me3, G3.Me.ty, G3.rets, some3_some, some3_none, atI0, atI1, atI2, atI3, ix3_tup, ix3_cl, getR3_ref, len3_tup, len3_cl, G3.add_int, add_tup, G3.sub_int, G3.mul_int, fdiv_int, G3.mod_int, pow_int, shl_int, aadd_int, asub_int, G3.eq_int, G3.ne_int, G3.lt_int, G3.le_int, G3.gt_int, G3.ge_int, isN_, notN_, inn_, nin_, in3_tup, isNon_int, isNon_non, isNon_tup, isNon_ref, isB3_bl, isI_int, one_, two_, tru_bl, tru_int, tru_non, tru_tup, int3_int, int3_bl, seqAt_tup, listAt_cl, list3_tup, sl3_tup, sl3_cl, neg3_int, seqI_tup, seqI_cl, zip3_tup, chain_t, chain_f, Option.bind_some, List.map_cons, List.map_nil, List.length_cons, List.length_nil, List.length_map, List.length_replicate, List.length_append, List.replicate, List.cons_append, List.nil_append, List.append_nil, Nat.sub_self, List.getElem?_cons_zero, List.getElem?_cons_succ, List.set_cons_zero, List.set_cons_succ, Nat.reduceAdd, Nat.reduceSub, Nat.zero_add, Option.getD_some, Bool.not_true, Bool.not_false, if_true, if_false, ite_true, ite_false, Bool.false_eq_true, reduceIte, decide_eq_true_eq, true_and, and_true]
    refine lc_drawG mkD (fun _ => .inl trivial) e7 (fun i d hd xs M' e' Qe k => ?_) (by rw [List.length_map]; omega) fun dr xs8 hdr p8 hp8 => ?_
    · obtain ⟨m, hm, rfl⟩ := List.mem_map.mp (List.mem_of_getElem? hd)
      simp only [G3.wpSs, G3.wpS, G3.wpE, G3.wpEL, G3.wpO, G3.wpTO, G3.wpT, G3.wpAnd, G3.wpOr, G3.wpAndT, G3.wpOrT, G3.wpI, G3.wpG, G3.wpGs, G3.wipe3, G3.st3, G3.bi3, G3.me3, G3.Me.ty, G3.rets, some3_some, some3_none, atI0, atI1, atI2, atI3, ix3_tup, ix3_cl, getR3_ref, len3_tup, len3_cl, G3.add_int, add_tup, G3.sub_int, G3.mul_int, fdiv_int, G3.mod_int, pow_int, shl_int, aadd_int, asub_int, G3.eq_int, G3.ne_int, G3.lt_int, G3.le_int, G3.gt_int, G3.ge_int, isN_, notN_, inn_, nin_, in3_tup, isNon_int, isNon_non, isNon_tup, isNon_ref, isB3_bl, isI_int, one_, two_, tru_bl, tru_int, tru_non, tru_tup, int3_int, int3_bl, seqAt_tup, listAt_cl, list3_tup, sl3_tup, sl3_cl, neg3_int, seqI_tup, seqI_cl, zip3_tup, chain_t, chain_f, Option.bind_some, List.map_cons, List.map_nil, List.length_cons, List.length_nil, List.length_map, List.length_replicate, List.length_append, List.replicate, List.cons_append, List.nil_append, List.append_nil, Nat.sub_self, List.getElem?_cons_zero, List.getElem?_cons_succ, List.set_cons_zero, List.set_cons_succ, Nat.reduceAdd, Nat.reduceSub, Nat.zero_add, Option.getD_some, Bool.not_true, Bool.not_false, if_true, if_false, ite_true, ite_false, Bool.false_eq_true, reduceIte, decide_eq_true_eq, true_and, and_true]
      exact take_step e' (by decide) fun r xs' _ _ => k (m.1, r) xs'
    · rw [List.length_map] at hdr
      have hpa := Go.ne e7 hp8
      simp only [seqAt_ref put_same, G3.wpSs, G3.wpS, G3.wpE, G3.wpEL, G3.wpO, G3.wpTO, G3.wpT, G3.wpAnd, G3.wpOr, G3.wpAndT, G3.wpOrT, G3.wpI, G3.wpG, G3.wpGs, G3.wipe3, G3.st3, G3.bi3, G3.me3, G3.Me.ty, G3.rets, some3_some, some3_none, atI0, atI1, atI2, atI3, ix3_tup, ix3_cl, getR3_ref, len3_tup, len3_cl, G3.add_int, add_tup, G3.sub_int, G3.mul_int, fdiv_int, G3.mod_int, pow_int, shl_int, aadd_int, asub_int, G3.eq_int, G3.ne_int, G3.lt_int, G3.le_int, G3.gt_int, G3.ge_int, isN_, notN_, inn_, nin_, in3_tup, isNon_int, isNon_non, isNon_tup, isNon_ref, isB3_bl, isI_int, one_, two_, tru_bl, tru_int, tru_non, tru_tup, int3_int, int3_bl, seqAt_tup, listAt_cl, list3_tup, sl3_tup, sl3_cl, neg3_int, seqI_tup, seqI_cl, zip3_tup, chain_t, chain_f, Option.bind_some, List.map_cons, List.map_nil, List.length_cons, List.length_nil, List.length_map, List.length_replicate, List.length_append, List.replicate, List.cons_append, List.nil_append, List.append_nil, Nat.sub_self, List.getElem?_cons_zero, List.getElem?_cons_succ, List.set_cons_zero, List.set_cons_succ, Nat.reduceAdd, Nat.reduceSub, Nat.zero_add, Option.getD_some, Bool.not_true, Bool.not_false, if_true, if_false, ite_true, ite_false, Bool.false_eq_true, reduceIte, decide_eq_true_eq, true_and, and_true]
      have g8 := (g7.put xs8).sub (.new (o := .lst (dr.map mkD)) (by rw [put_ne hpa]; exact hp8))
      have e8 : put (put M7 a (.lst (xs8.map .int))) p8 (.lst (dr.map mkD)) a = some (.lst (xs8.map .int)) := by rw [put_ne (Ne.symm hpa), put_same]
      generalize put (put M7 a (.lst (xs8.map .int))) p8 (.lst (dr.map mkD)) = M8 at *
      refine take_step e8 (by decide) fun most xs9 m0 m1 => ?_
      obtain ⟨most, rfl⟩ := Int.eq_ofNat_of_zero_le m0
      simp only [G3.add_int]
      rw [show ((1 : Int) + (most : Nat)) = ((most + 1 : Nat) : Int) by omega]
      refine per_step (by omega) (by omega) ?_
      simp only [G3.wpSs, G3.wpS, G3.wpE, G3.wpEL, G3.wpO, G3.wpTO, G3.wpT, G3.wpAnd, G3.wpOr, G3.wpAndT, G3.wpOrT, G3.wpI, G3.wpG, G3.wpGs, G3.wipe3, G3.st3, G3.bi3, G3.me3, G3.Me.ty, G3.rets, some3_some, some3_none, atI0, atI1, atI2, atI3, ix3_tup, ix3_cl, getR3_ref, len3_tup, len3_cl, G3.add_int, add_tup, G3.sub_int, G3.mul_int, fdiv_int, G3.mod_int, pow_int, shl_int, aadd_int, asub_int, G3.eq_int, G3.ne_int, G3.lt_int, G3.le_int, G3.gt_int, G3.ge_int, isN_, notN_, inn_, nin_, in3_tup, isNon_int, isNon_non, isNon_tup, isNon_ref, isB3_bl, isI_int, one_, two_, tru_bl, tru_int, tru_non, tru_tup, int3_int, int3_bl, seqAt_tup, listAt_cl, list3_tup, sl3_tup, sl3_cl, neg3_int, seqI_tup, seqI_cl, zip3_tup, chain_t, chain_f, Option.bind_some, List.map_cons, List.map_nil, List.length_cons, List.length_nil, List.length_map, List.length_replicate, List.length_append, List.replicate, List.cons_append, List.nil_append, List.append_nil, Nat.sub_self, List.getElem?_cons_zero, List.getElem?_cons_succ, List.set_cons_zero, List.set_cons_succ, Nat.reduceAdd, Nat.reduceSub, Nat.zero_add, Option.getD_some, Bool.not_true, Bool.not_false, if_true, if_false, ite_true, ite_false, Bool.false_eq_true, reduceIte, decide_eq_true_eq, true_and, and_true]
      refine per_step (mk := dr) (by omega) (by omega) ?_
      simp only [G3.wpSs, G3.wpS, G3.wpE, G3.wpEL, G3.wpO, G3.wpTO, G3.wpT, G3.wpAnd, G3.wpOr, G3.wpAndT, G3.wpOrT, G3.wpI, G3.wpG, G3.wpGs, G3.wipe3, G3.st3, G3.bi3, G3.me3, G3.Me.ty, G3.rets, some3_some, some3_none, atI0, atI1, atI2, atI3, ix3_tup, ix3_cl, getR3_ref, len3_tup, len3_cl, G3.add_int, add_tup, G3.sub_int, G3.mul_int, fdiv_int, G3.mod_int, pow_int, shl_int, aadd_int, asub_int, G3.eq_int, G3.ne_int, G3.lt_int, G3.le_int, G3.gt_int, G3.ge_int, isN_, notN_, inn_, nin_, in3_tup, isNon_int, isNon_non, isNon_tup, isNon_ref, isB3_bl, isI_int, one_, two_, tru_bl, tru_int, tru_non, tru_tup, int3_int, int3_bl, seqAt_tup, listAt_cl, list3_tup, sl3_tup, sl3_cl, neg3_int, seqI_tup, seqI_cl, zip3_tup, chain_t, chain_f, Option.bind_some, List.map_cons, List.map_nil, List.length_cons, List.length_nil, List.length_map, List.length_replicate, List.length_append, List.replicate, List.cons_append, List.nil_append, List.append_nil, Nat.sub_self, List.getElem?_cons_zero, List.getElem?_cons_succ, List.set_cons_zero, List.set_cons_succ, Nat.reduceAdd, Nat.reduceSub, Nat.zero_add, Option.getD_some, Bool.not_true, Bool.not_false, if_true, if_false, ite_true, ite_false, Bool.false_eq_true, reduceIte, decide_eq_true_eq, true_and, and_true]
      exact wk.of ⟨_, _, _, _, _, _, _, _, _, _, _, _, _, _, _, rfl, g8.put xs9, fun _ => ⟨dr, by omega, rfl⟩⟩
  · refine wk.of ?_
    obtain ⟨dr, hdr, rfl⟩ := hmk (by rw [ei]; decide)
    obtain ⟨xs1, e1⟩ := go.at
    simp only [r1_law, encM, G3.wpSs, G3.wpS, G3.wpE, G3.wpEL, G3.wpO, G3.wpTO, G3.wpT, G3.wpAnd, G3.wpOr, G3.wpAndT, G3.wpOrT, G3.wpI, G3.wpG, G3.wpGs, G3.wipe3, G3.st3, G3.bi3, G3.me3, G3.Me.ty, G3.rets, some3_some, some3_none, atI0, atI1, atI2, atI3, ix3_tup, ix3_cl, getR3_ref, len3_tup, len3_cl, G3.add_int, add_tup, G3.sub_int, G3.mul_int, fdiv_int, G3.mod_int, pow_int, shl_int, aadd_int, asub_int, G3.eq_int, G3.ne_int, G3.lt_int, G3.le_int, G3.gt_int, G3.ge_int, isN_, notN_, inn_, nin_, in3_tup, isNon_int, isNon_non, isNon_tup, isNon_ref, isB3_bl, isI_int, one_, two_, tru_bl, tru_int, tru_non, tru_tup, int3_int, int3_bl, seqAt_tup, listAt_cl, list3_tup, sl3_tup, sl3_cl, neg3_int, seqI_tup, seqI_cl, zip3_tup, chain_t, chain_f, Option.bind_some, List.map_cons, List.map_nil, List.length_cons, List.length_nil, List.length_map, List.length_replicate, List.length_append, List.replicate, List.cons_append, List.nil_append, List.append_nil, Nat.sub_self, List.getElem?_cons_zero, List.getElem?_cons_succ, List.set_cons_zero, List.set_cons_succ, Nat.reduceAdd, Nat.reduceSub, Nat.zero_add, Option.getD_some, Bool.not_true, Bool.not_false, if_true, if_false, ite_true, ite_false, Bool.false_eq_true, reduceIte, decide_eq_true_eq, true_and, and_true]
    refine take_step e1 (by decide) fun r xs2 _ _ => ?_
    have g2 := go.put xs2
    have second : ∀ (M' : Mp), Go M a M' → ∀ y2 y3 y4 y5 y6 y7 y8 y9 y10 y11 y12 y13 y14 y15 y16, G3.wpSs (r2_law sp__law_clock_is_right sp__law_pick sp__law_tide_hour sp_height_at sp__law_take sp__law_periods_are_right sp__law_tide_marks sp_wheels sp__law_draws) (rets Q) [some (.cl (ns.map .int)), some (.ref a), y2, y3, y4, y5, y6, y7, y8, y9, y10, y11, y12, y13, y14, y15, y16] M' := second_part q ha
    simp only [G3.wpSs, G3.wpS, G3.wpE, G3.wpEL, G3.wpO, G3.wpTO, G3.wpT, G3.wpAnd, G3.wpOr, G3.wpAndT, G3.wpOrT, G3.wpI, G3.wpG, G3.wpGs, G3.wipe3, G3.st3, G3.bi3, G3.me3, G3.Me.ty, G3.rets, some3_some, some3_none, atI0, atI1, atI2, atI3, ix3_tup, ix3_cl, getR3_ref, len3_tup, len3_cl, G3.add_int, add_tup, G3.sub_int, G3.mul_int, fdiv_int, G3.mod_int, pow_int, shl_int, aadd_int, asub_int, G3.eq_int, G3.ne_int, G3.lt_int, G3.le_int, G3.gt_int, G3.ge_int, isN_, notN_, inn_, nin_, in3_tup, isNon_int, isNon_non, isNon_tup, isNon_ref, isB3_bl, isI_int, one_, two_, tru_bl, tru_int, tru_non, tru_tup, int3_int, int3_bl, seqAt_tup, listAt_cl, list3_tup, sl3_tup, sl3_cl, neg3_int, seqI_tup, seqI_cl, zip3_tup, chain_t, chain_f, Option.bind_some, List.map_cons, List.map_nil, List.length_cons, List.length_nil, List.length_map, List.length_replicate, List.length_append, List.replicate, List.cons_append, List.nil_append, List.append_nil, Nat.sub_self, List.getElem?_cons_zero, List.getElem?_cons_succ, List.set_cons_zero, List.set_cons_succ, Nat.reduceAdd, Nat.reduceSub, Nat.zero_add, Option.getD_some, Bool.not_true, Bool.not_false, if_true, if_false, ite_true, ite_false, Bool.false_eq_true, reduceIte, decide_eq_true_eq, true_and, and_true]
    by_cases c : r = 0
    · rw [if_pos c]
      obtain ⟨mk3, e3, h3⟩ := cut_map mkD dr none (some 3)
      have e3' : cutD (dr.map fun m => D.tup [.int m.1, .int m.2]) none (some 3) = mk3.map mkD := e3
      rw [e3']
      refine per_step (mk := mk3) (most := 24) (by decide) (by omega) ?_
      simp only [G3.wpSs, G3.wpS, G3.wpE, G3.wpEL, G3.wpO, G3.wpTO, G3.wpT, G3.wpAnd, G3.wpOr, G3.wpAndT, G3.wpOrT, G3.wpI, G3.wpG, G3.wpGs, G3.wipe3, G3.st3, G3.bi3, G3.me3, G3.Me.ty, G3.rets, some3_some, some3_none, atI0, atI1, atI2, atI3, ix3_tup, ix3_cl, getR3_ref, len3_tup, len3_cl, G3.add_int, add_tup, G3.sub_int, G3.mul_int, fdiv_int, G3.mod_int, pow_int, shl_int, aadd_int, asub_int, G3.eq_int, G3.ne_int, G3.lt_int, G3.le_int, G3.gt_int, G3.ge_int, isN_, notN_, inn_, nin_, in3_tup, isNon_int, isNon_non, isNon_tup, isNon_ref, isB3_bl, isI_int, one_, two_, tru_bl, tru_int, tru_non, tru_tup, int3_int, int3_bl, seqAt_tup, listAt_cl, list3_tup, sl3_tup, sl3_cl, neg3_int, seqI_tup, seqI_cl, zip3_tup, chain_t, chain_f, Option.bind_some, List.map_cons, List.map_nil, List.length_cons, List.length_nil, List.length_map, List.length_replicate, List.length_append, List.replicate, List.cons_append, List.nil_append, List.append_nil, Nat.sub_self, List.getElem?_cons_zero, List.getElem?_cons_succ, List.set_cons_zero, List.set_cons_succ, Nat.reduceAdd, Nat.reduceSub, Nat.zero_add, Option.getD_some, Bool.not_true, Bool.not_false, if_true, if_false, ite_true, ite_false, Bool.false_eq_true, reduceIte, decide_eq_true_eq, true_and, and_true]
      exact second _ g2 _ _ _ _ _ _ _ _ _ _ _ _ _ _ _
    · rw [if_neg c]
      exact second _ g2 _ _ _ _ _ _ _ _ _ _ _ _ _ _ _
end K82
set_option Elab.async false
set_option linter.all false
set_option maxRecDepth 100000
set_option maxHeartbeats 0
namespace K82
open PySem PySem.Spec PyProof.Rows L2 G3 G3w
/-! ### the end: facts by names -/
def d_height_at : He.DefD := ⟨("height_at", none), "height_at", "height_at", defArgs (top 2), defBody (top 2), defScope (top 2), [], []⟩
def d_do_wheels_fit : He.DefD := ⟨("do_wheels_fit", none), "do_wheels_fit", "do_wheels_fit", defArgs (top 3), defBody (top 3), defScope (top 3), [], []⟩
def d_joined_rests : He.DefD := ⟨("joined_rests", none), "joined_rests", "joined_rests", defArgs (top 4), defBody (top 4), defScope (top 4), [], []⟩
def d_told_wheels : He.DefD := ⟨("told_wheels", none), "told_wheels", "told_wheels", defArgs (top 5), defBody (top 5), defScope (top 5), [], []⟩
def d_fitting_periods : He.DefD := ⟨("fitting_periods", none), "fitting_periods", "fitting_periods", defArgs (top 7), defBody (top 7), defScope (top 7), [], []⟩
def d_later_marks : He.DefD := ⟨("later_marks", none), "later_marks", "later_marks", defArgs (top 8), defBody (top 8), defScope (top 8), [], []⟩
def d_fitting_offsets : He.DefD := ⟨("fitting_offsets", none), "fitting_offsets", "fitting_offsets", defArgs (top 9), defBody (top 9), defScope (top 9), [], []⟩
def d_clock_height : He.DefD := ⟨("clock_height", none), "clock_height", "clock_height", defArgs (top 10), defBody (top 10), defScope (top 10), [], []⟩
def d__law_draws : He.DefD := ⟨("_law_draws", none), "_law_draws", "_law_draws", defArgs (top 12), defBody (top 12), defScope (top 12), [], []⟩
def d__law_take : He.DefD := ⟨("_law_take", none), "_law_take", "_law_take", defArgs (top 13), defBody (top 13), defScope (top 13), [], []⟩
def d__law_pick : He.DefD := ⟨("_law_pick", none), "_law_pick", "_law_pick", defArgs (top 14), defBody (top 14), defScope (top 14), [], []⟩
def d__law_same : He.DefD := ⟨("_law_same", none), "_law_same", "_law_same", defArgs (top 15), defBody (top 15), defScope (top 15), [], []⟩
def d__law_gcd : He.DefD := ⟨("_law_gcd", none), "_law_gcd", "_law_gcd", defArgs (top 16), defBody (top 16), defScope (top 16), [], []⟩
def d__law_tide_number : He.DefD := ⟨("_law_tide_number", none), "_law_tide_number", "_law_tide_number", defArgs (top 17), defBody (top 17), defScope (top 17), [], []⟩
def d__law_tide_hour : He.DefD := ⟨("_law_tide_hour", none), "_law_tide_hour", "_law_tide_hour", defArgs (top 18), defBody (top 18), defScope (top 18), [], []⟩
def d__law_tide_wheels : He.DefD := ⟨("_law_tide_wheels", none), "_law_tide_wheels", "_law_tide_wheels", defArgs (top 19), defBody (top 19), defScope (top 19), [], []⟩
def d__law_tide_height : He.DefD := ⟨("_law_tide_height", none), "_law_tide_height", "_law_tide_height", defArgs (top 20), defBody (top 20), defScope (top 20), [], []⟩
def d__law_tide_marks : He.DefD := ⟨("_law_tide_marks", none), "_law_tide_marks", "_law_tide_marks", defArgs (top 21), defBody (top 21), defScope (top 21), [], []⟩
def d__law_tide_round : He.DefD := ⟨("_law_tide_round", none), "_law_tide_round", "_law_tide_round", defArgs (top 22), defBody (top 22), defScope (top 22), [], []⟩
def d__law_pair_fits : He.DefD := ⟨("_law_pair_fits", none), "_law_pair_fits", "_law_pair_fits", defArgs (top 23), defBody (top 23), defScope (top 23), [], []⟩
def d__law_periods_are_right : He.DefD := ⟨("_law_periods_are_right", none), "_law_periods_are_right", "_law_periods_are_right", defArgs (top 24), defBody (top 24), defScope (top 24), [], []⟩
def d__law_clock_is_right : He.DefD := ⟨("_law_clock_is_right", none), "_law_clock_is_right", "_law_clock_is_right", defArgs (top 25), defBody (top 25), defScope (top 25), [], []⟩
def d_law : He.DefD := ⟨("law", none), "law", "law", defArgs (top 26), defBody (top 26), defScope (top 26), [], []⟩
def fn : List He.DefD := [d_height_at, d_do_wheels_fit, d_joined_rests, d_told_wheels, d_fitting_periods, d_later_marks, d_fitting_offsets, d_clock_height, d__law_draws, d__law_take, d__law_pick, d__law_same, d__law_gcd, d__law_tide_number, d__law_tide_hour, d__law_tide_wheels, d__law_tide_height, d__law_tide_marks, d__law_tide_round, d__law_pair_fits, d__law_periods_are_right, d__law_clock_is_right, d_law]
def names : List Str := ["height_at", "do_wheels_fit", "joined_rests", "told_wheels", "fitting_periods", "later_marks", "fitting_offsets", "clock_height", "_law_draws", "_law_take", "_law_pick", "_law_same", "_law_gcd", "_law_tide_number", "_law_tide_hour", "_law_tide_wheels", "_law_tide_height", "_law_tide_marks", "_law_tide_round", "_law_pair_fits", "_law_periods_are_right", "_law_clock_is_right", "law"]
def fa : List He.Fa := names.map .glo ++ bl.map .free
theorem facts {P : Program} {w : World} {K : PySem.W.Frag} {h : Heap} {mg : Str → Option Value} {f : Addr} (X : K.In h) (G : h.Ns mainGlobals mg) (hfa : mg ("law" : Str) = some (.ref f)) (c : SaysI fa im fn K) :
    ∃ fd : FuncData, (∀ (s : Shared) (v : Value), BindsTo s fd ⟨[v], []⟩ [("script", v)]) ∧ ∀ base : Heap, K.In base → base.Ns mainGlobals mg → FnOk P w K mg base CX0 26 f fd ["script"] (liftSp K sp_law) := by
  have hbl : ∀ x ∈ bl, mg x = none := free_all X G c fun x hx => List.mem_append_right _ (List.mem_map_of_mem hx)
  have him : ∀ p ∈ im, mg p.1 = some (.builtin p.2) := im_all X G c
  have gl : ∀ x ∈ names, mg x = some (.ref (He.ga K x)) := fun x hx => glo_at X G c (List.mem_append_left _ (List.mem_map_of_mem hx))
  obtain ⟨e_height_at, F0_height_at⟩ := c.1.def_ 0 (d := d_height_at) rfl
  have F_height_at : FunD K "height_at" "height_at" (defArgs (top 2)) (defBody (top 2)) (defScope (top 2)) [] [] (He.ga K "height_at") e_height_at := F0_height_at
  have B_height_at : Binds K e_height_at ["wheels", "hour"] [] := F_height_at.bindsN fun _ _ _ _ _ _ us hl => match us, hl with | [_, _], _ => rfl
  have M_height_at : mg (Str.ofString "height_at") = some (.ref (He.ga K "height_at")) := gl _ (List.mem_of_getElem? (show names[0]? = some (Str.ofString "height_at") from rfl))
  obtain ⟨e_do_wheels_fit, F0_do_wheels_fit⟩ := c.1.def_ 1 (d := d_do_wheels_fit) rfl
  have F_do_wheels_fit : FunD K "do_wheels_fit" "do_wheels_fit" (defArgs (top 3)) (defBody (top 3)) (defScope (top 3)) [] [] (He.ga K "do_wheels_fit") e_do_wheels_fit := F0_do_wheels_fit
  have B_do_wheels_fit : Binds K e_do_wheels_fit ["wheels", "marks"] [] := F_do_wheels_fit.bindsN fun _ _ _ _ _ _ us hl => match us, hl with | [_, _], _ => rfl
  have M_do_wheels_fit : mg (Str.ofString "do_wheels_fit") = some (.ref (He.ga K "do_wheels_fit")) := gl _ (List.mem_of_getElem? (show names[1]? = some (Str.ofString "do_wheels_fit") from rfl))
  obtain ⟨e_joined_rests, F0_joined_rests⟩ := c.1.def_ 2 (d := d_joined_rests) rfl
  have F_joined_rests : FunD K "joined_rests" "joined_rests" (defArgs (top 4)) (defBody (top 4)) (defScope (top 4)) [] [] (He.ga K "joined_rests") e_joined_rests := F0_joined_rests
  have B_joined_rests : Binds K e_joined_rests ["p", "q", "hours"] [] := F_joined_rests.bindsN fun _ _ _ _ _ _ us hl => match us, hl with | [_, _, _], _ => rfl
  have M_joined_rests : mg (Str.ofString "joined_rests") = some (.ref (He.ga K "joined_rests")) := gl _ (List.mem_of_getElem? (show names[2]? = some (Str.ofString "joined_rests") from rfl))
  obtain ⟨e_told_wheels, F0_told_wheels⟩ := c.1.def_ 3 (d := d_told_wheels) rfl
  have F_told_wheels : FunD K "told_wheels" "told_wheels" (defArgs (top 5)) (defBody (top 5)) (defScope (top 5)) [] [] (He.ga K "told_wheels") e_told_wheels := F0_told_wheels
  have B_told_wheels : Binds K e_told_wheels ["p", "q", "marks"] [] := F_told_wheels.bindsN fun _ _ _ _ _ _ us hl => match us, hl with | [_, _, _], _ => rfl
  have M_told_wheels : mg (Str.ofString "told_wheels") = some (.ref (He.ga K "told_wheels")) := gl _ (List.mem_of_getElem? (show names[3]? = some (Str.ofString "told_wheels") from rfl))
  obtain ⟨e_fitting_periods, F0_fitting_periods⟩ := c.1.def_ 4 (d := d_fitting_periods) rfl
  have F_fitting_periods : FunD K "fitting_periods" "fitting_periods" (defArgs (top 7)) (defBody (top 7)) (defScope (top 7)) [] [] (He.ga K "fitting_periods") e_fitting_periods := F0_fitting_periods
  have B_fitting_periods : Binds K e_fitting_periods ["marks", "most"] [] := F_fitting_periods.bindsN fun _ _ _ _ _ _ us hl => match us, hl with | [_, _], _ => rfl
  have M_fitting_periods : mg (Str.ofString "fitting_periods") = some (.ref (He.ga K "fitting_periods")) := gl _ (List.mem_of_getElem? (show names[4]? = some (Str.ofString "fitting_periods") from rfl))
  obtain ⟨e_later_marks, F0_later_marks⟩ := c.1.def_ 5 (d := d_later_marks) rfl
  have F_later_marks : FunD K "later_marks" "later_marks" (defArgs (top 8)) (defBody (top 8)) (defScope (top 8)) [] [] (He.ga K "later_marks") e_later_marks := F0_later_marks
  have B_later_marks : Binds K e_later_marks ["marks", "more"] [] := F_later_marks.bindsN fun _ _ _ _ _ _ us hl => match us, hl with | [_, _], _ => rfl
  have M_later_marks : mg (Str.ofString "later_marks") = some (.ref (He.ga K "later_marks")) := gl _ (List.mem_of_getElem? (show names[5]? = some (Str.ofString "later_marks") from rfl))
  obtain ⟨e_fitting_offsets, F0_fitting_offsets⟩ := c.1.def_ 6 (d := d_fitting_offsets) rfl
  have F_fitting_offsets : FunD K "fitting_offsets" "fitting_offsets" (defArgs (top 9)) (defBody (top 9)) (defScope (top 9)) [] [] (He.ga K "fitting_offsets") e_fitting_offsets := F0_fitting_offsets
  have B_fitting_offsets : Binds K e_fitting_offsets ["wheels", "marks"] [] := F_fitting_offsets.bindsN fun _ _ _ _ _ _ us hl => match us, hl with | [_, _], _ => rfl
  have M_fitting_offsets : mg (Str.ofString "fitting_offsets") = some (.ref (He.ga K "fitting_offsets")) := gl _ (List.mem_of_getElem? (show names[6]? = some (Str.ofString "fitting_offsets") from rfl))
  obtain ⟨e_clock_height, F0_clock_height⟩ := c.1.def_ 7 (d := d_clock_height) rfl
  have F_clock_height : FunD K "clock_height" "clock_height" (defArgs (top 10)) (defBody (top 10)) (defScope (top 10)) [] [] (He.ga K "clock_height") e_clock_height := F0_clock_height
  have B_clock_height : Binds K e_clock_height ["wheels", "marks", "hour"] [] := F_clock_height.bindsN fun _ _ _ _ _ _ us hl => match us, hl with | [_, _, _], _ => rfl
  have M_clock_height : mg (Str.ofString "clock_height") = some (.ref (He.ga K "clock_height")) := gl _ (List.mem_of_getElem? (show names[7]? = some (Str.ofString "clock_height") from rfl))
  obtain ⟨e__law_draws, F0__law_draws⟩ := c.1.def_ 8 (d := d__law_draws) rfl
  have F__law_draws : FunD K "_law_draws" "_law_draws" (defArgs (top 12)) (defBody (top 12)) (defScope (top 12)) [] [] (He.ga K "_law_draws") e__law_draws := F0__law_draws
  have B__law_draws : Binds K e__law_draws ["script", "many"] [] := F__law_draws.bindsN fun _ _ _ _ _ _ us hl => match us, hl with | [_, _], _ => rfl
  have M__law_draws : mg (Str.ofString "_law_draws") = some (.ref (He.ga K "_law_draws")) := gl _ (List.mem_of_getElem? (show names[8]? = some (Str.ofString "_law_draws") from rfl))
  obtain ⟨e__law_take, F0__law_take⟩ := c.1.def_ 9 (d := d__law_take) rfl
  have F__law_take : FunD K "_law_take" "_law_take" (defArgs (top 13)) (defBody (top 13)) (defScope (top 13)) [] [] (He.ga K "_law_take") e__law_take := F0__law_take
  have B__law_take : Binds K e__law_take ["draws", "many"] [] := F__law_take.bindsN fun _ _ _ _ _ _ us hl => match us, hl with | [_, _], _ => rfl
  have M__law_take : mg (Str.ofString "_law_take") = some (.ref (He.ga K "_law_take")) := gl _ (List.mem_of_getElem? (show names[9]? = some (Str.ofString "_law_take") from rfl))
  obtain ⟨e__law_pick, F0__law_pick⟩ := c.1.def_ 10 (d := d__law_pick) rfl
  have F__law_pick : FunD K "_law_pick" "_law_pick" (defArgs (top 14)) (defBody (top 14)) (defScope (top 14)) [] [] (He.ga K "_law_pick") e__law_pick := F0__law_pick
  have B__law_pick : Binds K e__law_pick ["draws", "row"] [] := F__law_pick.bindsN fun _ _ _ _ _ _ us hl => match us, hl with | [_, _], _ => rfl
  have M__law_pick : mg (Str.ofString "_law_pick") = some (.ref (He.ga K "_law_pick")) := gl _ (List.mem_of_getElem? (show names[10]? = some (Str.ofString "_law_pick") from rfl))
  obtain ⟨e__law_same, F0__law_same⟩ := c.1.def_ 11 (d := d__law_same) rfl
  have F__law_same : FunD K "_law_same" "_law_same" (defArgs (top 15)) (defBody (top 15)) (defScope (top 15)) [] [] (He.ga K "_law_same") e__law_same := F0__law_same
  have B__law_same : Binds K e__law_same ["actual", "due"] [] := F__law_same.bindsN fun _ _ _ _ _ _ us hl => match us, hl with | [_, _], _ => rfl
  have M__law_same : mg (Str.ofString "_law_same") = some (.ref (He.ga K "_law_same")) := gl _ (List.mem_of_getElem? (show names[11]? = some (Str.ofString "_law_same") from rfl))
  obtain ⟨e__law_gcd, F0__law_gcd⟩ := c.1.def_ 12 (d := d__law_gcd) rfl
  have F__law_gcd : FunD K "_law_gcd" "_law_gcd" (defArgs (top 16)) (defBody (top 16)) (defScope (top 16)) [] [] (He.ga K "_law_gcd") e__law_gcd := F0__law_gcd
  have B__law_gcd : Binds K e__law_gcd ["one", "other"] [] := F__law_gcd.bindsN fun _ _ _ _ _ _ us hl => match us, hl with | [_, _], _ => rfl
  have M__law_gcd : mg (Str.ofString "_law_gcd") = some (.ref (He.ga K "_law_gcd")) := gl _ (List.mem_of_getElem? (show names[12]? = some (Str.ofString "_law_gcd") from rfl))
  obtain ⟨e__law_tide_number, F0__law_tide_number⟩ := c.1.def_ 13 (d := d__law_tide_number) rfl
  have F__law_tide_number : FunD K "_law_tide_number" "_law_tide_number" (defArgs (top 17)) (defBody (top 17)) (defScope (top 17)) [] [] (He.ga K "_law_tide_number") e__law_tide_number := F0__law_tide_number
  have B__law_tide_number : Binds K e__law_tide_number ["draws"] [] := F__law_tide_number.bindsN fun _ _ _ _ _ _ us hl => match us, hl with | [_], _ => rfl
  have M__law_tide_number : mg (Str.ofString "_law_tide_number") = some (.ref (He.ga K "_law_tide_number")) := gl _ (List.mem_of_getElem? (show names[13]? = some (Str.ofString "_law_tide_number") from rfl))
  obtain ⟨e__law_tide_hour, F0__law_tide_hour⟩ := c.1.def_ 14 (d := d__law_tide_hour) rfl
  have F__law_tide_hour : FunD K "_law_tide_hour" "_law_tide_hour" (defArgs (top 18)) (defBody (top 18)) (defScope (top 18)) [] [] (He.ga K "_law_tide_hour") e__law_tide_hour := F0__law_tide_hour
  have B__law_tide_hour : Binds K e__law_tide_hour ["draws", "few"] [] := F__law_tide_hour.bindsN fun _ _ _ _ _ _ us hl => match us, hl with | [_, _], _ => rfl
  have M__law_tide_hour : mg (Str.ofString "_law_tide_hour") = some (.ref (He.ga K "_law_tide_hour")) := gl _ (List.mem_of_getElem? (show names[14]? = some (Str.ofString "_law_tide_hour") from rfl))
  obtain ⟨e__law_tide_wheels, F0__law_tide_wheels⟩ := c.1.def_ 15 (d := d__law_tide_wheels) rfl
  have F__law_tide_wheels : FunD K "_law_tide_wheels" "_law_tide_wheels" (defArgs (top 19)) (defBody (top 19)) (defScope (top 19)) [] [] (He.ga K "_law_tide_wheels") e__law_tide_wheels := F0__law_tide_wheels
  have B__law_tide_wheels : Binds K e__law_tide_wheels ["draws", "p", "q"] [] := F__law_tide_wheels.bindsN fun _ _ _ _ _ _ us hl => match us, hl with | [_, _, _], _ => rfl
  have M__law_tide_wheels : mg (Str.ofString "_law_tide_wheels") = some (.ref (He.ga K "_law_tide_wheels")) := gl _ (List.mem_of_getElem? (show names[15]? = some (Str.ofString "_law_tide_wheels") from rfl))
  obtain ⟨e__law_tide_height, F0__law_tide_height⟩ := c.1.def_ 16 (d := d__law_tide_height) rfl
  have F__law_tide_height : FunD K "_law_tide_height" "_law_tide_height" (defArgs (top 20)) (defBody (top 20)) (defScope (top 20)) [] [] (He.ga K "_law_tide_height") e__law_tide_height := F0__law_tide_height
  have B__law_tide_height : Binds K e__law_tide_height ["wheels", "hour"] [] := F__law_tide_height.bindsN fun _ _ _ _ _ _ us hl => match us, hl with | [_, _], _ => rfl
  have M__law_tide_height : mg (Str.ofString "_law_tide_height") = some (.ref (He.ga K "_law_tide_height")) := gl _ (List.mem_of_getElem? (show names[16]? = some (Str.ofString "_law_tide_height") from rfl))
  obtain ⟨e__law_tide_marks, F0__law_tide_marks⟩ := c.1.def_ 17 (d := d__law_tide_marks) rfl
  have F__law_tide_marks : FunD K "_law_tide_marks" "_law_tide_marks" (defArgs (top 21)) (defBody (top 21)) (defScope (top 21)) [] [] (He.ga K "_law_tide_marks") e__law_tide_marks := F0__law_tide_marks
  have B__law_tide_marks : Binds K e__law_tide_marks ["draws", "wheels", "many", "few"] [] := F__law_tide_marks.bindsN fun _ _ _ _ _ _ us hl => match us, hl with | [_, _, _, _], _ => rfl
  have M__law_tide_marks : mg (Str.ofString "_law_tide_marks") = some (.ref (He.ga K "_law_tide_marks")) := gl _ (List.mem_of_getElem? (show names[17]? = some (Str.ofString "_law_tide_marks") from rfl))
  obtain ⟨e__law_tide_round, F0__law_tide_round⟩ := c.1.def_ 18 (d := d__law_tide_round) rfl
  have F__law_tide_round : FunD K "_law_tide_round" "_law_tide_round" (defArgs (top 22)) (defBody (top 22)) (defScope (top 22)) [] [] (He.ga K "_law_tide_round") e__law_tide_round := F0__law_tide_round
  have B__law_tide_round : Binds K e__law_tide_round ["wheels"] [] := F__law_tide_round.bindsN fun _ _ _ _ _ _ us hl => match us, hl with | [_], _ => rfl
  have M__law_tide_round : mg (Str.ofString "_law_tide_round") = some (.ref (He.ga K "_law_tide_round")) := gl _ (List.mem_of_getElem? (show names[18]? = some (Str.ofString "_law_tide_round") from rfl))
  obtain ⟨e__law_pair_fits, F0__law_pair_fits⟩ := c.1.def_ 19 (d := d__law_pair_fits) rfl
  have F__law_pair_fits : FunD K "_law_pair_fits" "_law_pair_fits" (defArgs (top 23)) (defBody (top 23)) (defScope (top 23)) [] [] (He.ga K "_law_pair_fits") e__law_pair_fits := F0__law_pair_fits
  have B__law_pair_fits : Binds K e__law_pair_fits ["p", "q", "marks"] [] := F__law_pair_fits.bindsN fun _ _ _ _ _ _ us hl => match us, hl with | [_, _, _], _ => rfl
  have M__law_pair_fits : mg (Str.ofString "_law_pair_fits") = some (.ref (He.ga K "_law_pair_fits")) := gl _ (List.mem_of_getElem? (show names[19]? = some (Str.ofString "_law_pair_fits") from rfl))
  obtain ⟨e__law_periods_are_right, F0__law_periods_are_right⟩ := c.1.def_ 20 (d := d__law_periods_are_right) rfl
  have F__law_periods_are_right : FunD K "_law_periods_are_right" "_law_periods_are_right" (defArgs (top 24)) (defBody (top 24)) (defScope (top 24)) [] [] (He.ga K "_law_periods_are_right") e__law_periods_are_right := F0__law_periods_are_right
  have B__law_periods_are_right : Binds K e__law_periods_are_right ["marks", "most"] [] := F__law_periods_are_right.bindsN fun _ _ _ _ _ _ us hl => match us, hl with | [_, _], _ => rfl
  have M__law_periods_are_right : mg (Str.ofString "_law_periods_are_right") = some (.ref (He.ga K "_law_periods_are_right")) := gl _ (List.mem_of_getElem? (show names[20]? = some (Str.ofString "_law_periods_are_right") from rfl))
  obtain ⟨e__law_clock_is_right, F0__law_clock_is_right⟩ := c.1.def_ 21 (d := d__law_clock_is_right) rfl
  have F__law_clock_is_right : FunD K "_law_clock_is_right" "_law_clock_is_right" (defArgs (top 25)) (defBody (top 25)) (defScope (top 25)) [] [] (He.ga K "_law_clock_is_right") e__law_clock_is_right := F0__law_clock_is_right
  have B__law_clock_is_right : Binds K e__law_clock_is_right ["wheels", "marks", "hour"] [] := F__law_clock_is_right.bindsN fun _ _ _ _ _ _ us hl => match us, hl with | [_, _, _], _ => rfl
  have M__law_clock_is_right : mg (Str.ofString "_law_clock_is_right") = some (.ref (He.ga K "_law_clock_is_right")) := gl _ (List.mem_of_getElem? (show names[21]? = some (Str.ofString "_law_clock_is_right") from rfl))
  obtain ⟨e_law, F0_law⟩ := c.1.def_ 22 (d := d_law) rfl
  have F_law : FunD K "law" "law" (defArgs (top 26)) (defBody (top 26)) (defScope (top 26)) [] [] (He.ga K "law") e_law := F0_law
  have e := hfa.symm.trans (gl "law" (List.mem_of_getElem? (show names[22]? = some ("law" : Str) from rfl)))
  cases e
  have b := FunD.bindsA (ps := ["script"]) F_law fun _ _ _ _ _ _ us hl => match us, hl with | [_], _ => rfl
  refine ⟨e_law, fun s v => b s [v] rfl, fun base _ _ => ?_⟩
  have G0__law_same : GoodG P w K mg base 0 "_law_same" (sp__law_same 0) := good_no F__law_same M__law_same B__law_same _ (fun _ _ _ ⟨_, _, _, h, _⟩ => h.elim)
  have G1__law_same : GoodG P w K mg base 2 "_law_same" (sp__law_same 1) := good_ok (nm := "_law_same") F__law_same c__law_same s__law_same (b__law_same (sp__law_same 0)) (k__law_same (sp__law_same 0)) hbl him M__law_same B__law_same (GoodL.all (l := callsSs (b__law_same (sp__law_same 0))) (good := fun x s => GoodG P w K mg base 1 x s) (by simp only [b__law_same, r2__law_same, r1__law_same, r5__law_same, r4__law_same, r3__law_same, callsSs, callsS, callsE, callsEL, callsO, callsI, List.append_nil, List.nil_append, List.cons_append, GoodL]; (repeat' apply And.intro) <;> first | exact trivial | exact G0__law_same.mono (by decide))) (sp__law_same 1) (by intro ds M Q h; first | (obtain ⟨rfl, _⟩ := h; rfl) | (obtain ⟨_, rfl, _⟩ := h; rfl) | (obtain ⟨_, _, rfl, _⟩ := h; rfl) | (obtain ⟨_, _, _, rfl, _⟩ := h; rfl) | (obtain ⟨_, _, _, _, rfl, _⟩ := h; rfl) | (obtain ⟨_, _, _, _, _, rfl, _⟩ := h; rfl) | (obtain ⟨_, _, _, _, _, _, rfl, _⟩ := h; rfl) | (obtain ⟨_, _, _, _, _, _, _, rfl, _⟩ := h; rfl) | (obtain ⟨_, _, _, _, _, _, _, _, rfl, _⟩ := h; rfl) | (obtain ⟨_, _, _, _, _, _, _, _, _, rfl, _⟩ := h; rfl) | (obtain ⟨_, _, _, _, _, _, _, _, _, _, rfl, _⟩ := h; rfl) | (obtain ⟨_, _, _, _, _, _, _, _, _, _, _, rfl, _⟩ := h; rfl) | (obtain ⟨_, _, _, _, _, _, _, _, _, _, _, _, rfl, _⟩ := h; rfl) | (obtain ⟨_, _, _, _, _, _, _, _, _, _, _, _, _, rfl, _⟩ := h; rfl)) (t__law_same 0)
  have G2__law_same : GoodG P w K mg base 3 "_law_same" (sp__law_same 2) := good_ok (nm := "_law_same") F__law_same c__law_same s__law_same (b__law_same (sp__law_same 1)) (k__law_same (sp__law_same 1)) hbl him M__law_same B__law_same (GoodL.all (l := callsSs (b__law_same (sp__law_same 1))) (good := fun x s => GoodG P w K mg base 2 x s) (by simp only [b__law_same, r2__law_same, r1__law_same, r5__law_same, r4__law_same, r3__law_same, callsSs, callsS, callsE, callsEL, callsO, callsI, List.append_nil, List.nil_append, List.cons_append, GoodL]; (repeat' apply And.intro) <;> first | exact trivial | exact G1__law_same.mono (by decide))) (sp__law_same 2) (by intro ds M Q h; first | (obtain ⟨rfl, _⟩ := h; rfl) | (obtain ⟨_, rfl, _⟩ := h; rfl) | (obtain ⟨_, _, rfl, _⟩ := h; rfl) | (obtain ⟨_, _, _, rfl, _⟩ := h; rfl) | (obtain ⟨_, _, _, _, rfl, _⟩ := h; rfl) | (obtain ⟨_, _, _, _, _, rfl, _⟩ := h; rfl) | (obtain ⟨_, _, _, _, _, _, rfl, _⟩ := h; rfl) | (obtain ⟨_, _, _, _, _, _, _, rfl, _⟩ := h; rfl) | (obtain ⟨_, _, _, _, _, _, _, _, rfl, _⟩ := h; rfl) | (obtain ⟨_, _, _, _, _, _, _, _, _, rfl, _⟩ := h; rfl) | (obtain ⟨_, _, _, _, _, _, _, _, _, _, rfl, _⟩ := h; rfl) | (obtain ⟨_, _, _, _, _, _, _, _, _, _, _, rfl, _⟩ := h; rfl) | (obtain ⟨_, _, _, _, _, _, _, _, _, _, _, _, rfl, _⟩ := h; rfl) | (obtain ⟨_, _, _, _, _, _, _, _, _, _, _, _, _, rfl, _⟩ := h; rfl)) (t__law_same 1)
  have G__law_same : GoodG P w K mg base 4 "_law_same" (sp__law_same 3) := good_ok (nm := "_law_same") F__law_same c__law_same s__law_same (b__law_same (sp__law_same 2)) (k__law_same (sp__law_same 2)) hbl him M__law_same B__law_same (GoodL.all (l := callsSs (b__law_same (sp__law_same 2))) (good := fun x s => GoodG P w K mg base 3 x s) (by simp only [b__law_same, r2__law_same, r1__law_same, r5__law_same, r4__law_same, r3__law_same, callsSs, callsS, callsE, callsEL, callsO, callsI, List.append_nil, List.nil_append, List.cons_append, GoodL]; (repeat' apply And.intro) <;> first | exact trivial | exact G2__law_same.mono (by decide))) (sp__law_same 3) (by intro ds M Q h; first | (obtain ⟨rfl, _⟩ := h; rfl) | (obtain ⟨_, rfl, _⟩ := h; rfl) | (obtain ⟨_, _, rfl, _⟩ := h; rfl) | (obtain ⟨_, _, _, rfl, _⟩ := h; rfl) | (obtain ⟨_, _, _, _, rfl, _⟩ := h; rfl) | (obtain ⟨_, _, _, _, _, rfl, _⟩ := h; rfl) | (obtain ⟨_, _, _, _, _, _, rfl, _⟩ := h; rfl) | (obtain ⟨_, _, _, _, _, _, _, rfl, _⟩ := h; rfl) | (obtain ⟨_, _, _, _, _, _, _, _, rfl, _⟩ := h; rfl) | (obtain ⟨_, _, _, _, _, _, _, _, _, rfl, _⟩ := h; rfl) | (obtain ⟨_, _, _, _, _, _, _, _, _, _, rfl, _⟩ := h; rfl) | (obtain ⟨_, _, _, _, _, _, _, _, _, _, _, rfl, _⟩ := h; rfl) | (obtain ⟨_, _, _, _, _, _, _, _, _, _, _, _, rfl, _⟩ := h; rfl) | (obtain ⟨_, _, _, _, _, _, _, _, _, _, _, _, _, rfl, _⟩ := h; rfl)) (t__law_same 2)
  have G_height_at : GoodG P w K mg base 5 "height_at" (sp_height_at) := good_ok (nm := "height_at") F_height_at c_height_at s_height_at (b_height_at) (k_height_at) hbl him M_height_at B_height_at (GoodL.all (l := callsSs (b_height_at)) (good := fun x s => GoodG P w K mg base 4 x s) (by simp only [b_height_at, callsSs, callsS, callsE, callsEL, callsO, callsI, List.append_nil, List.nil_append, List.cons_append, GoodL])) (sp_height_at) (by intro ds M Q h; first | (obtain ⟨rfl, _⟩ := h; rfl) | (obtain ⟨_, rfl, _⟩ := h; rfl) | (obtain ⟨_, _, rfl, _⟩ := h; rfl) | (obtain ⟨_, _, _, rfl, _⟩ := h; rfl) | (obtain ⟨_, _, _, _, rfl, _⟩ := h; rfl) | (obtain ⟨_, _, _, _, _, rfl, _⟩ := h; rfl) | (obtain ⟨_, _, _, _, _, _, rfl, _⟩ := h; rfl) | (obtain ⟨_, _, _, _, _, _, _, rfl, _⟩ := h; rfl) | (obtain ⟨_, _, _, _, _, _, _, _, rfl, _⟩ := h; rfl) | (obtain ⟨_, _, _, _, _, _, _, _, _, rfl, _⟩ := h; rfl) | (obtain ⟨_, _, _, _, _, _, _, _, _, _, rfl, _⟩ := h; rfl) | (obtain ⟨_, _, _, _, _, _, _, _, _, _, _, rfl, _⟩ := h; rfl) | (obtain ⟨_, _, _, _, _, _, _, _, _, _, _, _, rfl, _⟩ := h; rfl) | (obtain ⟨_, _, _, _, _, _, _, _, _, _, _, _, _, rfl, _⟩ := h; rfl)) (t_height_at)
  have G_do_wheels_fit : GoodG P w K mg base 6 "do_wheels_fit" (sp_do_wheels_fit) := good_ok (nm := "do_wheels_fit") F_do_wheels_fit c_do_wheels_fit s_do_wheels_fit (b_do_wheels_fit (sp_height_at)) (k_do_wheels_fit (sp_height_at)) hbl him M_do_wheels_fit B_do_wheels_fit (GoodL.all (l := callsSs (b_do_wheels_fit (sp_height_at))) (good := fun x s => GoodG P w K mg base 5 x s) (by simp only [b_do_wheels_fit, callsSs, callsS, callsE, callsEL, callsO, callsI, List.append_nil, List.nil_append, List.cons_append, GoodL]; (repeat' apply And.intro) <;> first | exact trivial | exact G_height_at.mono (by decide))) (sp_do_wheels_fit) (by intro ds M Q h; first | (obtain ⟨rfl, _⟩ := h; rfl) | (obtain ⟨_, rfl, _⟩ := h; rfl) | (obtain ⟨_, _, rfl, _⟩ := h; rfl) | (obtain ⟨_, _, _, rfl, _⟩ := h; rfl) | (obtain ⟨_, _, _, _, rfl, _⟩ := h; rfl) | (obtain ⟨_, _, _, _, _, rfl, _⟩ := h; rfl) | (obtain ⟨_, _, _, _, _, _, rfl, _⟩ := h; rfl) | (obtain ⟨_, _, _, _, _, _, _, rfl, _⟩ := h; rfl) | (obtain ⟨_, _, _, _, _, _, _, _, rfl, _⟩ := h; rfl) | (obtain ⟨_, _, _, _, _, _, _, _, _, rfl, _⟩ := h; rfl) | (obtain ⟨_, _, _, _, _, _, _, _, _, _, rfl, _⟩ := h; rfl) | (obtain ⟨_, _, _, _, _, _, _, _, _, _, _, rfl, _⟩ := h; rfl) | (obtain ⟨_, _, _, _, _, _, _, _, _, _, _, _, rfl, _⟩ := h; rfl) | (obtain ⟨_, _, _, _, _, _, _, _, _, _, _, _, _, rfl, _⟩ := h; rfl)) (t_do_wheels_fit)
  have G_later_marks : GoodG P w K mg base 7 "later_marks" (sp_later_marks) := good_ok (nm := "later_marks") F_later_marks c_later_marks s_later_marks (b_later_marks) (k_later_marks) hbl him M_later_marks B_later_marks (GoodL.all (l := callsSs (b_later_marks)) (good := fun x s => GoodG P w K mg base 6 x s) (by simp only [b_later_marks, callsSs, callsS, callsE, callsEL, callsO, callsI, List.append_nil, List.nil_append, List.cons_append, GoodL])) (sp_later_marks) (by intro ds M Q h; first | (obtain ⟨rfl, _⟩ := h; rfl) | (obtain ⟨_, rfl, _⟩ := h; rfl) | (obtain ⟨_, _, rfl, _⟩ := h; rfl) | (obtain ⟨_, _, _, rfl, _⟩ := h; rfl) | (obtain ⟨_, _, _, _, rfl, _⟩ := h; rfl) | (obtain ⟨_, _, _, _, _, rfl, _⟩ := h; rfl) | (obtain ⟨_, _, _, _, _, _, rfl, _⟩ := h; rfl) | (obtain ⟨_, _, _, _, _, _, _, rfl, _⟩ := h; rfl) | (obtain ⟨_, _, _, _, _, _, _, _, rfl, _⟩ := h; rfl) | (obtain ⟨_, _, _, _, _, _, _, _, _, rfl, _⟩ := h; rfl) | (obtain ⟨_, _, _, _, _, _, _, _, _, _, rfl, _⟩ := h; rfl) | (obtain ⟨_, _, _, _, _, _, _, _, _, _, _, rfl, _⟩ := h; rfl) | (obtain ⟨_, _, _, _, _, _, _, _, _, _, _, _, rfl, _⟩ := h; rfl) | (obtain ⟨_, _, _, _, _, _, _, _, _, _, _, _, _, rfl, _⟩ := h; rfl)) (t_later_marks)
  have G_fitting_offsets : GoodG P w K mg base 8 "fitting_offsets" (sp_fitting_offsets) := good_ok (nm := "fitting_offsets") F_fitting_offsets c_fitting_offsets s_fitting_offsets (b_fitting_offsets (sp_do_wheels_fit) (sp_later_marks)) (k_fitting_offsets (sp_do_wheels_fit) (sp_later_marks)) hbl him M_fitting_offsets B_fitting_offsets (GoodL.all (l := callsSs (b_fitting_offsets (sp_do_wheels_fit) (sp_later_marks))) (good := fun x s => GoodG P w K mg base 7 x s) (by simp only [b_fitting_offsets, callsSs, callsS, callsE, callsEL, callsO, callsI, List.append_nil, List.nil_append, List.cons_append, GoodL]; (repeat' apply And.intro) <;> first | exact trivial | exact G_do_wheels_fit.mono (by decide) | exact G_later_marks.mono (by decide))) (sp_fitting_offsets) (by intro ds M Q h; first | (obtain ⟨rfl, _⟩ := h; rfl) | (obtain ⟨_, rfl, _⟩ := h; rfl) | (obtain ⟨_, _, rfl, _⟩ := h; rfl) | (obtain ⟨_, _, _, rfl, _⟩ := h; rfl) | (obtain ⟨_, _, _, _, rfl, _⟩ := h; rfl) | (obtain ⟨_, _, _, _, _, rfl, _⟩ := h; rfl) | (obtain ⟨_, _, _, _, _, _, rfl, _⟩ := h; rfl) | (obtain ⟨_, _, _, _, _, _, _, rfl, _⟩ := h; rfl) | (obtain ⟨_, _, _, _, _, _, _, _, rfl, _⟩ := h; rfl) | (obtain ⟨_, _, _, _, _, _, _, _, _, rfl, _⟩ := h; rfl) | (obtain ⟨_, _, _, _, _, _, _, _, _, _, rfl, _⟩ := h; rfl) | (obtain ⟨_, _, _, _, _, _, _, _, _, _, _, rfl, _⟩ := h; rfl) | (obtain ⟨_, _, _, _, _, _, _, _, _, _, _, _, rfl, _⟩ := h; rfl) | (obtain ⟨_, _, _, _, _, _, _, _, _, _, _, _, _, rfl, _⟩ := h; rfl)) (t_fitting_offsets)
  have G_clock_height : GoodG P w K mg base 9 "clock_height" (sp_clock_height) := good_ok (nm := "clock_height") F_clock_height c_clock_height s_clock_height (b_clock_height (sp_fitting_offsets) (sp_height_at)) (k_clock_height (sp_fitting_offsets) (sp_height_at)) hbl him M_clock_height B_clock_height (GoodL.all (l := callsSs (b_clock_height (sp_fitting_offsets) (sp_height_at))) (good := fun x s => GoodG P w K mg base 8 x s) (by simp only [b_clock_height, callsSs, callsS, callsE, callsEL, callsO, callsI, List.append_nil, List.nil_append, List.cons_append, GoodL]; (repeat' apply And.intro) <;> first | exact trivial | exact G_fitting_offsets.mono (by decide) | exact G_height_at.mono (by decide))) (sp_clock_height) (by intro ds M Q h; first | (obtain ⟨rfl, _⟩ := h; rfl) | (obtain ⟨_, rfl, _⟩ := h; rfl) | (obtain ⟨_, _, rfl, _⟩ := h; rfl) | (obtain ⟨_, _, _, rfl, _⟩ := h; rfl) | (obtain ⟨_, _, _, _, rfl, _⟩ := h; rfl) | (obtain ⟨_, _, _, _, _, rfl, _⟩ := h; rfl) | (obtain ⟨_, _, _, _, _, _, rfl, _⟩ := h; rfl) | (obtain ⟨_, _, _, _, _, _, _, rfl, _⟩ := h; rfl) | (obtain ⟨_, _, _, _, _, _, _, _, rfl, _⟩ := h; rfl) | (obtain ⟨_, _, _, _, _, _, _, _, _, rfl, _⟩ := h; rfl) | (obtain ⟨_, _, _, _, _, _, _, _, _, _, rfl, _⟩ := h; rfl) | (obtain ⟨_, _, _, _, _, _, _, _, _, _, _, rfl, _⟩ := h; rfl) | (obtain ⟨_, _, _, _, _, _, _, _, _, _, _, _, rfl, _⟩ := h; rfl) | (obtain ⟨_, _, _, _, _, _, _, _, _, _, _, _, _, rfl, _⟩ := h; rfl)) (t_clock_height)
  have G__law_tide_height : GoodG P w K mg base 10 "_law_tide_height" (sp_height_at) := good_ok (nm := "_law_tide_height") F__law_tide_height c__law_tide_height s__law_tide_height (b__law_tide_height) (k__law_tide_height) hbl him M__law_tide_height B__law_tide_height (GoodL.all (l := callsSs (b__law_tide_height)) (good := fun x s => GoodG P w K mg base 9 x s) (by simp only [b__law_tide_height, callsSs, callsS, callsE, callsEL, callsO, callsI, List.append_nil, List.nil_append, List.cons_append, GoodL])) (sp_height_at) (by intro ds M Q h; first | (obtain ⟨rfl, _⟩ := h; rfl) | (obtain ⟨_, rfl, _⟩ := h; rfl) | (obtain ⟨_, _, rfl, _⟩ := h; rfl) | (obtain ⟨_, _, _, rfl, _⟩ := h; rfl) | (obtain ⟨_, _, _, _, rfl, _⟩ := h; rfl) | (obtain ⟨_, _, _, _, _, rfl, _⟩ := h; rfl) | (obtain ⟨_, _, _, _, _, _, rfl, _⟩ := h; rfl) | (obtain ⟨_, _, _, _, _, _, _, rfl, _⟩ := h; rfl) | (obtain ⟨_, _, _, _, _, _, _, _, rfl, _⟩ := h; rfl) | (obtain ⟨_, _, _, _, _, _, _, _, _, rfl, _⟩ := h; rfl) | (obtain ⟨_, _, _, _, _, _, _, _, _, _, rfl, _⟩ := h; rfl) | (obtain ⟨_, _, _, _, _, _, _, _, _, _, _, rfl, _⟩ := h; rfl) | (obtain ⟨_, _, _, _, _, _, _, _, _, _, _, _, rfl, _⟩ := h; rfl) | (obtain ⟨_, _, _, _, _, _, _, _, _, _, _, _, _, rfl, _⟩ := h; rfl)) (t__law_tide_height)
  have G__law_gcd : GoodG P w K mg base 11 "_law_gcd" (sp__law_gcd) := good_ok (nm := "_law_gcd") F__law_gcd c__law_gcd s__law_gcd (b__law_gcd) (k__law_gcd) hbl him M__law_gcd B__law_gcd (GoodL.all (l := callsSs (b__law_gcd)) (good := fun x s => GoodG P w K mg base 10 x s) (by simp only [b__law_gcd, r1__law_gcd, r2__law_gcd, callsSs, callsS, callsE, callsEL, callsO, callsI, List.append_nil, List.nil_append, List.cons_append, GoodL])) (sp__law_gcd) (by intro ds M Q h; first | (obtain ⟨rfl, _⟩ := h; rfl) | (obtain ⟨_, rfl, _⟩ := h; rfl) | (obtain ⟨_, _, rfl, _⟩ := h; rfl) | (obtain ⟨_, _, _, rfl, _⟩ := h; rfl) | (obtain ⟨_, _, _, _, rfl, _⟩ := h; rfl) | (obtain ⟨_, _, _, _, _, rfl, _⟩ := h; rfl) | (obtain ⟨_, _, _, _, _, _, rfl, _⟩ := h; rfl) | (obtain ⟨_, _, _, _, _, _, _, rfl, _⟩ := h; rfl) | (obtain ⟨_, _, _, _, _, _, _, _, rfl, _⟩ := h; rfl) | (obtain ⟨_, _, _, _, _, _, _, _, _, rfl, _⟩ := h; rfl) | (obtain ⟨_, _, _, _, _, _, _, _, _, _, rfl, _⟩ := h; rfl) | (obtain ⟨_, _, _, _, _, _, _, _, _, _, _, rfl, _⟩ := h; rfl) | (obtain ⟨_, _, _, _, _, _, _, _, _, _, _, _, rfl, _⟩ := h; rfl) | (obtain ⟨_, _, _, _, _, _, _, _, _, _, _, _, _, rfl, _⟩ := h; rfl)) (t__law_gcd)
  have G__law_tide_round : GoodG P w K mg base 12 "_law_tide_round" (sp_round_heights) := good_ok (nm := "_law_tide_round") F__law_tide_round c__law_tide_round s__law_tide_round (b__law_tide_round (sp__law_gcd) (sp_height_at)) (k__law_tide_round (sp__law_gcd) (sp_height_at)) hbl him M__law_tide_round B__law_tide_round (GoodL.all (l := callsSs (b__law_tide_round (sp__law_gcd) (sp_height_at))) (good := fun x s => GoodG P w K mg base 11 x s) (by simp only [b__law_tide_round, callsSs, callsS, callsE, callsEL, callsO, callsI, List.append_nil, List.nil_append, List.cons_append, GoodL]; (repeat' apply And.intro) <;> first | exact trivial | exact G__law_gcd.mono (by decide) | exact G__law_tide_height.mono (by decide))) (sp_round_heights) (by intro ds M Q h; first | (obtain ⟨rfl, _⟩ := h; rfl) | (obtain ⟨_, rfl, _⟩ := h; rfl) | (obtain ⟨_, _, rfl, _⟩ := h; rfl) | (obtain ⟨_, _, _, rfl, _⟩ := h; rfl) | (obtain ⟨_, _, _, _, rfl, _⟩ := h; rfl) | (obtain ⟨_, _, _, _, _, rfl, _⟩ := h; rfl) | (obtain ⟨_, _, _, _, _, _, rfl, _⟩ := h; rfl) | (obtain ⟨_, _, _, _, _, _, _, rfl, _⟩ := h; rfl) | (obtain ⟨_, _, _, _, _, _, _, _, rfl, _⟩ := h; rfl) | (obtain ⟨_, _, _, _, _, _, _, _, _, rfl, _⟩ := h; rfl) | (obtain ⟨_, _, _, _, _, _, _, _, _, _, rfl, _⟩ := h; rfl) | (obtain ⟨_, _, _, _, _, _, _, _, _, _, _, rfl, _⟩ := h; rfl) | (obtain ⟨_, _, _, _, _, _, _, _, _, _, _, _, rfl, _⟩ := h; rfl) | (obtain ⟨_, _, _, _, _, _, _, _, _, _, _, _, _, rfl, _⟩ := h; rfl)) (t__law_tide_round)
  have G__law_clock_is_right : GoodG P w K mg base 13 "_law_clock_is_right" (sp__law_clock_is_right) := good_ok (nm := "_law_clock_is_right") F__law_clock_is_right c__law_clock_is_right s__law_clock_is_right (b__law_clock_is_right (sp__law_same 3) (sp_clock_height) (sp_height_at) (sp_fitting_offsets) (sp_round_heights)) (k__law_clock_is_right (sp__law_same 3) (sp_clock_height) (sp_height_at) (sp_fitting_offsets) (sp_round_heights)) hbl him M__law_clock_is_right B__law_clock_is_right (GoodL.all (l := callsSs (b__law_clock_is_right (sp__law_same 3) (sp_clock_height) (sp_height_at) (sp_fitting_offsets) (sp_round_heights))) (good := fun x s => GoodG P w K mg base 12 x s) (by simp only [b__law_clock_is_right, r3__law_clock_is_right, r2__law_clock_is_right, r1__law_clock_is_right, callsSs, callsS, callsE, callsEL, callsO, callsI, List.append_nil, List.nil_append, List.cons_append, GoodL]; (repeat' apply And.intro) <;> first | exact trivial | exact G__law_same.mono (by decide) | exact G_clock_height.mono (by decide) | exact G__law_tide_height.mono (by decide) | exact G_fitting_offsets.mono (by decide) | exact G__law_tide_round.mono (by decide))) (sp__law_clock_is_right) (by intro ds M Q h; first | (obtain ⟨rfl, _⟩ := h; rfl) | (obtain ⟨_, rfl, _⟩ := h; rfl) | (obtain ⟨_, _, rfl, _⟩ := h; rfl) | (obtain ⟨_, _, _, rfl, _⟩ := h; rfl) | (obtain ⟨_, _, _, _, rfl, _⟩ := h; rfl) | (obtain ⟨_, _, _, _, _, rfl, _⟩ := h; rfl) | (obtain ⟨_, _, _, _, _, _, rfl, _⟩ := h; rfl) | (obtain ⟨_, _, _, _, _, _, _, rfl, _⟩ := h; rfl) | (obtain ⟨_, _, _, _, _, _, _, _, rfl, _⟩ := h; rfl) | (obtain ⟨_, _, _, _, _, _, _, _, _, rfl, _⟩ := h; rfl) | (obtain ⟨_, _, _, _, _, _, _, _, _, _, rfl, _⟩ := h; rfl) | (obtain ⟨_, _, _, _, _, _, _, _, _, _, _, rfl, _⟩ := h; rfl) | (obtain ⟨_, _, _, _, _, _, _, _, _, _, _, _, rfl, _⟩ := h; rfl) | (obtain ⟨_, _, _, _, _, _, _, _, _, _, _, _, _, rfl, _⟩ := h; rfl)) (t__law_clock_is_right)
  have G__law_take : GoodG P w K mg base 14 "_law_take" (sp__law_take) := good_ok (nm := "_law_take") F__law_take c__law_take s__law_take (b__law_take) (k__law_take) hbl him M__law_take B__law_take (GoodL.all (l := callsSs (b__law_take)) (good := fun x s => GoodG P w K mg base 13 x s) (by simp only [b__law_take, r1__law_take, callsSs, callsS, callsE, callsEL, callsO, callsI, List.append_nil, List.nil_append, List.cons_append, GoodL])) (sp__law_take) (by intro ds M Q h; first | (obtain ⟨rfl, _⟩ := h; rfl) | (obtain ⟨_, rfl, _⟩ := h; rfl) | (obtain ⟨_, _, rfl, _⟩ := h; rfl) | (obtain ⟨_, _, _, rfl, _⟩ := h; rfl) | (obtain ⟨_, _, _, _, rfl, _⟩ := h; rfl) | (obtain ⟨_, _, _, _, _, rfl, _⟩ := h; rfl) | (obtain ⟨_, _, _, _, _, _, rfl, _⟩ := h; rfl) | (obtain ⟨_, _, _, _, _, _, _, rfl, _⟩ := h; rfl) | (obtain ⟨_, _, _, _, _, _, _, _, rfl, _⟩ := h; rfl) | (obtain ⟨_, _, _, _, _, _, _, _, _, rfl, _⟩ := h; rfl) | (obtain ⟨_, _, _, _, _, _, _, _, _, _, rfl, _⟩ := h; rfl) | (obtain ⟨_, _, _, _, _, _, _, _, _, _, _, rfl, _⟩ := h; rfl) | (obtain ⟨_, _, _, _, _, _, _, _, _, _, _, _, rfl, _⟩ := h; rfl) | (obtain ⟨_, _, _, _, _, _, _, _, _, _, _, _, _, rfl, _⟩ := h; rfl)) (t__law_take)
  have G__law_pick : GoodG P w K mg base 15 "_law_pick" (sp__law_pick) := good_ok (nm := "_law_pick") F__law_pick c__law_pick s__law_pick (b__law_pick (sp__law_take)) (k__law_pick (sp__law_take)) hbl him M__law_pick B__law_pick (GoodL.all (l := callsSs (b__law_pick (sp__law_take))) (good := fun x s => GoodG P w K mg base 14 x s) (by simp only [b__law_pick, callsSs, callsS, callsE, callsEL, callsO, callsI, List.append_nil, List.nil_append, List.cons_append, GoodL]; (repeat' apply And.intro) <;> first | exact trivial | exact G__law_take.mono (by decide))) (sp__law_pick) (by intro ds M Q h; first | (obtain ⟨rfl, _⟩ := h; rfl) | (obtain ⟨_, rfl, _⟩ := h; rfl) | (obtain ⟨_, _, rfl, _⟩ := h; rfl) | (obtain ⟨_, _, _, rfl, _⟩ := h; rfl) | (obtain ⟨_, _, _, _, rfl, _⟩ := h; rfl) | (obtain ⟨_, _, _, _, _, rfl, _⟩ := h; rfl) | (obtain ⟨_, _, _, _, _, _, rfl, _⟩ := h; rfl) | (obtain ⟨_, _, _, _, _, _, _, rfl, _⟩ := h; rfl) | (obtain ⟨_, _, _, _, _, _, _, _, rfl, _⟩ := h; rfl) | (obtain ⟨_, _, _, _, _, _, _, _, _, rfl, _⟩ := h; rfl) | (obtain ⟨_, _, _, _, _, _, _, _, _, _, rfl, _⟩ := h; rfl) | (obtain ⟨_, _, _, _, _, _, _, _, _, _, _, rfl, _⟩ := h; rfl) | (obtain ⟨_, _, _, _, _, _, _, _, _, _, _, _, rfl, _⟩ := h; rfl) | (obtain ⟨_, _, _, _, _, _, _, _, _, _, _, _, _, rfl, _⟩ := h; rfl)) (t__law_pick)
  have G__law_tide_hour : GoodG P w K mg base 16 "_law_tide_hour" (sp__law_tide_hour) := good_ok (nm := "_law_tide_hour") F__law_tide_hour c__law_tide_hour s__law_tide_hour (b__law_tide_hour (sp__law_take) (sp__law_pick)) (k__law_tide_hour (sp__law_take) (sp__law_pick)) hbl him M__law_tide_hour B__law_tide_hour (GoodL.all (l := callsSs (b__law_tide_hour (sp__law_take) (sp__law_pick))) (good := fun x s => GoodG P w K mg base 15 x s) (by simp only [b__law_tide_hour, r1__law_tide_hour, callsSs, callsS, callsE, callsEL, callsO, callsI, List.append_nil, List.nil_append, List.cons_append, GoodL]; (repeat' apply And.intro) <;> first | exact trivial | exact G__law_take.mono (by decide) | exact G__law_pick.mono (by decide))) (sp__law_tide_hour) (by intro ds M Q h; first | (obtain ⟨rfl, _⟩ := h; rfl) | (obtain ⟨_, rfl, _⟩ := h; rfl) | (obtain ⟨_, _, rfl, _⟩ := h; rfl) | (obtain ⟨_, _, _, rfl, _⟩ := h; rfl) | (obtain ⟨_, _, _, _, rfl, _⟩ := h; rfl) | (obtain ⟨_, _, _, _, _, rfl, _⟩ := h; rfl) | (obtain ⟨_, _, _, _, _, _, rfl, _⟩ := h; rfl) | (obtain ⟨_, _, _, _, _, _, _, rfl, _⟩ := h; rfl) | (obtain ⟨_, _, _, _, _, _, _, _, rfl, _⟩ := h; rfl) | (obtain ⟨_, _, _, _, _, _, _, _, _, rfl, _⟩ := h; rfl) | (obtain ⟨_, _, _, _, _, _, _, _, _, _, rfl, _⟩ := h; rfl) | (obtain ⟨_, _, _, _, _, _, _, _, _, _, _, rfl, _⟩ := h; rfl) | (obtain ⟨_, _, _, _, _, _, _, _, _, _, _, _, rfl, _⟩ := h; rfl) | (obtain ⟨_, _, _, _, _, _, _, _, _, _, _, _, _, rfl, _⟩ := h; rfl)) (t__law_tide_hour)
  have G_joined_rests : GoodG P w K mg base 17 "joined_rests" (sp_joined_rests) := good_ok (nm := "joined_rests") F_joined_rests c_joined_rests s_joined_rests (b_joined_rests) (k_joined_rests) hbl him M_joined_rests B_joined_rests (GoodL.all (l := callsSs (b_joined_rests)) (good := fun x s => GoodG P w K mg base 16 x s) (by simp only [b_joined_rests, r1_joined_rests, callsSs, callsS, callsE, callsEL, callsO, callsI, List.append_nil, List.nil_append, List.cons_append, GoodL])) (sp_joined_rests) (by intro ds M Q h; first | (obtain ⟨rfl, _⟩ := h; rfl) | (obtain ⟨_, rfl, _⟩ := h; rfl) | (obtain ⟨_, _, rfl, _⟩ := h; rfl) | (obtain ⟨_, _, _, rfl, _⟩ := h; rfl) | (obtain ⟨_, _, _, _, rfl, _⟩ := h; rfl) | (obtain ⟨_, _, _, _, _, rfl, _⟩ := h; rfl) | (obtain ⟨_, _, _, _, _, _, rfl, _⟩ := h; rfl) | (obtain ⟨_, _, _, _, _, _, _, rfl, _⟩ := h; rfl) | (obtain ⟨_, _, _, _, _, _, _, _, rfl, _⟩ := h; rfl) | (obtain ⟨_, _, _, _, _, _, _, _, _, rfl, _⟩ := h; rfl) | (obtain ⟨_, _, _, _, _, _, _, _, _, _, rfl, _⟩ := h; rfl) | (obtain ⟨_, _, _, _, _, _, _, _, _, _, _, rfl, _⟩ := h; rfl) | (obtain ⟨_, _, _, _, _, _, _, _, _, _, _, _, rfl, _⟩ := h; rfl) | (obtain ⟨_, _, _, _, _, _, _, _, _, _, _, _, _, rfl, _⟩ := h; rfl)) (t_joined_rests)
  have G_told_wheels : GoodG P w K mg base 18 "told_wheels" (sp_told_wheels) := good_ok (nm := "told_wheels") F_told_wheels c_told_wheels s_told_wheels (b_told_wheels (sp_do_wheels_fit) (sp_joined_rests)) (k_told_wheels (sp_do_wheels_fit) (sp_joined_rests)) hbl him M_told_wheels B_told_wheels (GoodL.all (l := callsSs (b_told_wheels (sp_do_wheels_fit) (sp_joined_rests))) (good := fun x s => GoodG P w K mg base 17 x s) (by simp only [b_told_wheels, r1_told_wheels, callsSs, callsS, callsE, callsEL, callsO, callsI, List.append_nil, List.nil_append, List.cons_append, GoodL]; (repeat' apply And.intro) <;> first | exact trivial | exact G_do_wheels_fit.mono (by decide) | exact G_joined_rests.mono (by decide))) (sp_told_wheels) (by intro ds M Q h; first | (obtain ⟨rfl, _⟩ := h; rfl) | (obtain ⟨_, rfl, _⟩ := h; rfl) | (obtain ⟨_, _, rfl, _⟩ := h; rfl) | (obtain ⟨_, _, _, rfl, _⟩ := h; rfl) | (obtain ⟨_, _, _, _, rfl, _⟩ := h; rfl) | (obtain ⟨_, _, _, _, _, rfl, _⟩ := h; rfl) | (obtain ⟨_, _, _, _, _, _, rfl, _⟩ := h; rfl) | (obtain ⟨_, _, _, _, _, _, _, rfl, _⟩ := h; rfl) | (obtain ⟨_, _, _, _, _, _, _, _, rfl, _⟩ := h; rfl) | (obtain ⟨_, _, _, _, _, _, _, _, _, rfl, _⟩ := h; rfl) | (obtain ⟨_, _, _, _, _, _, _, _, _, _, rfl, _⟩ := h; rfl) | (obtain ⟨_, _, _, _, _, _, _, _, _, _, _, rfl, _⟩ := h; rfl) | (obtain ⟨_, _, _, _, _, _, _, _, _, _, _, _, rfl, _⟩ := h; rfl) | (obtain ⟨_, _, _, _, _, _, _, _, _, _, _, _, _, rfl, _⟩ := h; rfl)) (t_told_wheels)
  have G_fitting_periods : GoodG P w K mg base 19 "fitting_periods" (sp_fitting_periods) := good_ok (nm := "fitting_periods") F_fitting_periods c_fitting_periods s_fitting_periods (b_fitting_periods (sp_told_wheels)) (k_fitting_periods (sp_told_wheels)) hbl him M_fitting_periods B_fitting_periods (GoodL.all (l := callsSs (b_fitting_periods (sp_told_wheels))) (good := fun x s => GoodG P w K mg base 18 x s) (by simp only [b_fitting_periods, callsSs, callsS, callsE, callsEL, callsO, callsI, List.append_nil, List.nil_append, List.cons_append, GoodL]; (repeat' apply And.intro) <;> first | exact trivial | exact G_told_wheels.mono (by decide))) (sp_fitting_periods) (by intro ds M Q h; first | (obtain ⟨rfl, _⟩ := h; rfl) | (obtain ⟨_, rfl, _⟩ := h; rfl) | (obtain ⟨_, _, rfl, _⟩ := h; rfl) | (obtain ⟨_, _, _, rfl, _⟩ := h; rfl) | (obtain ⟨_, _, _, _, rfl, _⟩ := h; rfl) | (obtain ⟨_, _, _, _, _, rfl, _⟩ := h; rfl) | (obtain ⟨_, _, _, _, _, _, rfl, _⟩ := h; rfl) | (obtain ⟨_, _, _, _, _, _, _, rfl, _⟩ := h; rfl) | (obtain ⟨_, _, _, _, _, _, _, _, rfl, _⟩ := h; rfl) | (obtain ⟨_, _, _, _, _, _, _, _, _, rfl, _⟩ := h; rfl) | (obtain ⟨_, _, _, _, _, _, _, _, _, _, rfl, _⟩ := h; rfl) | (obtain ⟨_, _, _, _, _, _, _, _, _, _, _, rfl, _⟩ := h; rfl) | (obtain ⟨_, _, _, _, _, _, _, _, _, _, _, _, rfl, _⟩ := h; rfl) | (obtain ⟨_, _, _, _, _, _, _, _, _, _, _, _, _, rfl, _⟩ := h; rfl)) (t_fitting_periods)
  have G__law_pair_fits : GoodG P w K mg base 20 "_law_pair_fits" (sp__law_pair_fits) := good_ok (nm := "_law_pair_fits") F__law_pair_fits c__law_pair_fits s__law_pair_fits (b__law_pair_fits) (k__law_pair_fits) hbl him M__law_pair_fits B__law_pair_fits (GoodL.all (l := callsSs (b__law_pair_fits)) (good := fun x s => GoodG P w K mg base 19 x s) (by simp only [b__law_pair_fits, r1__law_pair_fits, r2__law_pair_fits, r3__law_pair_fits, callsSs, callsS, callsE, callsEL, callsO, callsI, List.append_nil, List.nil_append, List.cons_append, GoodL])) (sp__law_pair_fits) (by intro ds M Q h; first | (obtain ⟨rfl, _⟩ := h; rfl) | (obtain ⟨_, rfl, _⟩ := h; rfl) | (obtain ⟨_, _, rfl, _⟩ := h; rfl) | (obtain ⟨_, _, _, rfl, _⟩ := h; rfl) | (obtain ⟨_, _, _, _, rfl, _⟩ := h; rfl) | (obtain ⟨_, _, _, _, _, rfl, _⟩ := h; rfl) | (obtain ⟨_, _, _, _, _, _, rfl, _⟩ := h; rfl) | (obtain ⟨_, _, _, _, _, _, _, rfl, _⟩ := h; rfl) | (obtain ⟨_, _, _, _, _, _, _, _, rfl, _⟩ := h; rfl) | (obtain ⟨_, _, _, _, _, _, _, _, _, rfl, _⟩ := h; rfl) | (obtain ⟨_, _, _, _, _, _, _, _, _, _, rfl, _⟩ := h; rfl) | (obtain ⟨_, _, _, _, _, _, _, _, _, _, _, rfl, _⟩ := h; rfl) | (obtain ⟨_, _, _, _, _, _, _, _, _, _, _, _, rfl, _⟩ := h; rfl) | (obtain ⟨_, _, _, _, _, _, _, _, _, _, _, _, _, rfl, _⟩ := h; rfl)) (t__law_pair_fits)
  have G__law_periods_are_right : GoodG P w K mg base 21 "_law_periods_are_right" (sp__law_periods_are_right) := good_ok (nm := "_law_periods_are_right") F__law_periods_are_right c__law_periods_are_right s__law_periods_are_right (b__law_periods_are_right (sp__law_same 3) (sp_fitting_periods) (sp__law_pair_fits)) (k__law_periods_are_right (sp__law_same 3) (sp_fitting_periods) (sp__law_pair_fits)) hbl him M__law_periods_are_right B__law_periods_are_right (GoodL.all (l := callsSs (b__law_periods_are_right (sp__law_same 3) (sp_fitting_periods) (sp__law_pair_fits))) (good := fun x s => GoodG P w K mg base 20 x s) (by simp only [b__law_periods_are_right, r1__law_periods_are_right, callsSs, callsS, callsE, callsEL, callsO, callsI, List.append_nil, List.nil_append, List.cons_append, GoodL]; (repeat' apply And.intro) <;> first | exact trivial | exact G__law_same.mono (by decide) | exact G_fitting_periods.mono (by decide) | exact G__law_pair_fits.mono (by decide))) (sp__law_periods_are_right) (by intro ds M Q h; first | (obtain ⟨rfl, _⟩ := h; rfl) | (obtain ⟨_, rfl, _⟩ := h; rfl) | (obtain ⟨_, _, rfl, _⟩ := h; rfl) | (obtain ⟨_, _, _, rfl, _⟩ := h; rfl) | (obtain ⟨_, _, _, _, rfl, _⟩ := h; rfl) | (obtain ⟨_, _, _, _, _, rfl, _⟩ := h; rfl) | (obtain ⟨_, _, _, _, _, _, rfl, _⟩ := h; rfl) | (obtain ⟨_, _, _, _, _, _, _, rfl, _⟩ := h; rfl) | (obtain ⟨_, _, _, _, _, _, _, _, rfl, _⟩ := h; rfl) | (obtain ⟨_, _, _, _, _, _, _, _, _, rfl, _⟩ := h; rfl) | (obtain ⟨_, _, _, _, _, _, _, _, _, _, rfl, _⟩ := h; rfl) | (obtain ⟨_, _, _, _, _, _, _, _, _, _, _, rfl, _⟩ := h; rfl) | (obtain ⟨_, _, _, _, _, _, _, _, _, _, _, _, rfl, _⟩ := h; rfl) | (obtain ⟨_, _, _, _, _, _, _, _, _, _, _, _, _, rfl, _⟩ := h; rfl)) (t__law_periods_are_right)
  have G__law_tide_marks : GoodG P w K mg base 22 "_law_tide_marks" (sp__law_tide_marks) := good_ok (nm := "_law_tide_marks") F__law_tide_marks c__law_tide_marks s__law_tide_marks (b__law_tide_marks (sp__law_take) (sp_height_at) (sp__law_tide_hour)) (k__law_tide_marks (sp__law_take) (sp_height_at) (sp__law_tide_hour)) hbl him M__law_tide_marks B__law_tide_marks (GoodL.all (l := callsSs (b__law_tide_marks (sp__law_take) (sp_height_at) (sp__law_tide_hour))) (good := fun x s => GoodG P w K mg base 21 x s) (by simp only [b__law_tide_marks, r1__law_tide_marks, r2__law_tide_marks, callsSs, callsS, callsE, callsEL, callsO, callsI, List.append_nil, List.nil_append, List.cons_append, GoodL]; (repeat' apply And.intro) <;> first | exact trivial | exact G__law_take.mono (by decide) | exact G__law_tide_height.mono (by decide) | exact G__law_tide_hour.mono (by decide))) (sp__law_tide_marks) (by intro ds M Q h; first | (obtain ⟨rfl, _⟩ := h; rfl) | (obtain ⟨_, rfl, _⟩ := h; rfl) | (obtain ⟨_, _, rfl, _⟩ := h; rfl) | (obtain ⟨_, _, _, rfl, _⟩ := h; rfl) | (obtain ⟨_, _, _, _, rfl, _⟩ := h; rfl) | (obtain ⟨_, _, _, _, _, rfl, _⟩ := h; rfl) | (obtain ⟨_, _, _, _, _, _, rfl, _⟩ := h; rfl) | (obtain ⟨_, _, _, _, _, _, _, rfl, _⟩ := h; rfl) | (obtain ⟨_, _, _, _, _, _, _, _, rfl, _⟩ := h; rfl) | (obtain ⟨_, _, _, _, _, _, _, _, _, rfl, _⟩ := h; rfl) | (obtain ⟨_, _, _, _, _, _, _, _, _, _, rfl, _⟩ := h; rfl) | (obtain ⟨_, _, _, _, _, _, _, _, _, _, _, rfl, _⟩ := h; rfl) | (obtain ⟨_, _, _, _, _, _, _, _, _, _, _, _, rfl, _⟩ := h; rfl) | (obtain ⟨_, _, _, _, _, _, _, _, _, _, _, _, _, rfl, _⟩ := h; rfl)) (t__law_tide_marks)
  have G__law_tide_number : GoodG P w K mg base 23 "_law_tide_number" (sp__law_tide_number) := good_ok (nm := "_law_tide_number") F__law_tide_number c__law_tide_number s__law_tide_number (b__law_tide_number (sp__law_pick) (sp__law_take)) (k__law_tide_number (sp__law_pick) (sp__law_take)) hbl him M__law_tide_number B__law_tide_number (GoodL.all (l := callsSs (b__law_tide_number (sp__law_pick) (sp__law_take))) (good := fun x s => GoodG P w K mg base 22 x s) (by simp only [b__law_tide_number, r1__law_tide_number, callsSs, callsS, callsE, callsEL, callsO, callsI, List.append_nil, List.nil_append, List.cons_append, GoodL]; (repeat' apply And.intro) <;> first | exact trivial | exact G__law_pick.mono (by decide) | exact G__law_take.mono (by decide))) (sp__law_tide_number) (by intro ds M Q h; first | (obtain ⟨rfl, _⟩ := h; rfl) | (obtain ⟨_, rfl, _⟩ := h; rfl) | (obtain ⟨_, _, rfl, _⟩ := h; rfl) | (obtain ⟨_, _, _, rfl, _⟩ := h; rfl) | (obtain ⟨_, _, _, _, rfl, _⟩ := h; rfl) | (obtain ⟨_, _, _, _, _, rfl, _⟩ := h; rfl) | (obtain ⟨_, _, _, _, _, _, rfl, _⟩ := h; rfl) | (obtain ⟨_, _, _, _, _, _, _, rfl, _⟩ := h; rfl) | (obtain ⟨_, _, _, _, _, _, _, _, rfl, _⟩ := h; rfl) | (obtain ⟨_, _, _, _, _, _, _, _, _, rfl, _⟩ := h; rfl) | (obtain ⟨_, _, _, _, _, _, _, _, _, _, rfl, _⟩ := h; rfl) | (obtain ⟨_, _, _, _, _, _, _, _, _, _, _, rfl, _⟩ := h; rfl) | (obtain ⟨_, _, _, _, _, _, _, _, _, _, _, _, rfl, _⟩ := h; rfl) | (obtain ⟨_, _, _, _, _, _, _, _, _, _, _, _, _, rfl, _⟩ := h; rfl)) (t__law_tide_number)
  have G__law_tide_wheels : GoodG P w K mg base 24 "_law_tide_wheels" (sp_wheels) := good_ok (nm := "_law_tide_wheels") F__law_tide_wheels c__law_tide_wheels s__law_tide_wheels (b__law_tide_wheels (sp__law_tide_number)) (k__law_tide_wheels (sp__law_tide_number)) hbl him M__law_tide_wheels B__law_tide_wheels (GoodL.all (l := callsSs (b__law_tide_wheels (sp__law_tide_number))) (good := fun x s => GoodG P w K mg base 23 x s) (by simp only [b__law_tide_wheels, callsSs, callsS, callsE, callsEL, callsO, callsI, List.append_nil, List.nil_append, List.cons_append, GoodL]; (repeat' apply And.intro) <;> first | exact trivial | exact G__law_tide_number.mono (by decide))) (sp_wheels) (by intro ds M Q h; first | (obtain ⟨rfl, _⟩ := h; rfl) | (obtain ⟨_, rfl, _⟩ := h; rfl) | (obtain ⟨_, _, rfl, _⟩ := h; rfl) | (obtain ⟨_, _, _, rfl, _⟩ := h; rfl) | (obtain ⟨_, _, _, _, rfl, _⟩ := h; rfl) | (obtain ⟨_, _, _, _, _, rfl, _⟩ := h; rfl) | (obtain ⟨_, _, _, _, _, _, rfl, _⟩ := h; rfl) | (obtain ⟨_, _, _, _, _, _, _, rfl, _⟩ := h; rfl) | (obtain ⟨_, _, _, _, _, _, _, _, rfl, _⟩ := h; rfl) | (obtain ⟨_, _, _, _, _, _, _, _, _, rfl, _⟩ := h; rfl) | (obtain ⟨_, _, _, _, _, _, _, _, _, _, rfl, _⟩ := h; rfl) | (obtain ⟨_, _, _, _, _, _, _, _, _, _, _, rfl, _⟩ := h; rfl) | (obtain ⟨_, _, _, _, _, _, _, _, _, _, _, _, rfl, _⟩ := h; rfl) | (obtain ⟨_, _, _, _, _, _, _, _, _, _, _, _, _, rfl, _⟩ := h; rfl)) (t__law_tide_wheels)
  have G__law_draws : GoodG P w K mg base 25 "_law_draws" (sp__law_draws) := good_ok (nm := "_law_draws") F__law_draws c__law_draws s__law_draws (b__law_draws) (k__law_draws) hbl him M__law_draws B__law_draws (GoodL.all (l := callsSs (b__law_draws)) (good := fun x s => GoodG P w K mg base 24 x s) (by simp only [b__law_draws, r2__law_draws, r1__law_draws, callsSs, callsS, callsE, callsEL, callsO, callsI, List.append_nil, List.nil_append, List.cons_append, GoodL])) (sp__law_draws) (by intro ds M Q h; first | (obtain ⟨rfl, _⟩ := h; rfl) | (obtain ⟨_, rfl, _⟩ := h; rfl) | (obtain ⟨_, _, rfl, _⟩ := h; rfl) | (obtain ⟨_, _, _, rfl, _⟩ := h; rfl) | (obtain ⟨_, _, _, _, rfl, _⟩ := h; rfl) | (obtain ⟨_, _, _, _, _, rfl, _⟩ := h; rfl) | (obtain ⟨_, _, _, _, _, _, rfl, _⟩ := h; rfl) | (obtain ⟨_, _, _, _, _, _, _, rfl, _⟩ := h; rfl) | (obtain ⟨_, _, _, _, _, _, _, _, rfl, _⟩ := h; rfl) | (obtain ⟨_, _, _, _, _, _, _, _, _, rfl, _⟩ := h; rfl) | (obtain ⟨_, _, _, _, _, _, _, _, _, _, rfl, _⟩ := h; rfl) | (obtain ⟨_, _, _, _, _, _, _, _, _, _, _, rfl, _⟩ := h; rfl) | (obtain ⟨_, _, _, _, _, _, _, _, _, _, _, _, rfl, _⟩ := h; rfl) | (obtain ⟨_, _, _, _, _, _, _, _, _, _, _, _, _, rfl, _⟩ := h; rfl)) (t__law_draws)
  exact fn_ok (nm := "law") F_law c_law s_law (b_law (sp__law_clock_is_right) (sp__law_pick) (sp__law_tide_hour) (sp_height_at) (sp__law_take) (sp__law_periods_are_right) (sp__law_tide_marks) (sp_wheels) (sp__law_draws)) (k_law (sp__law_clock_is_right) (sp__law_pick) (sp__law_tide_hour) (sp_height_at) (sp__law_take) (sp__law_periods_are_right) (sp__law_tide_marks) (sp_wheels) (sp__law_draws)) hbl him (GoodL.all (l := callsSs (b_law (sp__law_clock_is_right) (sp__law_pick) (sp__law_tide_hour) (sp_height_at) (sp__law_take) (sp__law_periods_are_right) (sp__law_tide_marks) (sp_wheels) (sp__law_draws))) (good := fun x s => GoodG P w K mg base 25 x s) (by simp only [b_law, r3_law, r4_law, r2_law, r1_law, callsSs, callsS, callsE, callsEL, callsO, callsI, List.append_nil, List.nil_append, List.cons_append, GoodL]; (repeat' apply And.intro) <;> first | exact trivial | exact G__law_clock_is_right.mono (by decide) | exact G__law_pick.mono (by decide) | exact G__law_tide_hour.mono (by decide) | exact G__law_tide_height.mono (by decide) | exact G__law_take.mono (by decide) | exact G__law_periods_are_right.mono (by decide) | exact G__law_tide_marks.mono (by decide) | exact G__law_tide_wheels.mono (by decide) | exact G__law_draws.mono (by decide))) sp_law (by intro ds M Q h; first | (obtain ⟨rfl, _⟩ := h; rfl) | (obtain ⟨_, rfl, _⟩ := h; rfl) | (obtain ⟨_, _, rfl, _⟩ := h; rfl) | (obtain ⟨_, _, _, rfl, _⟩ := h; rfl) | (obtain ⟨_, _, _, _, rfl, _⟩ := h; rfl) | (obtain ⟨_, _, _, _, _, rfl, _⟩ := h; rfl) | (obtain ⟨_, _, _, _, _, _, rfl, _⟩ := h; rfl) | (obtain ⟨_, _, _, _, _, _, _, rfl, _⟩ := h; rfl) | (obtain ⟨_, _, _, _, _, _, _, _, rfl, _⟩ := h; rfl) | (obtain ⟨_, _, _, _, _, _, _, _, _, rfl, _⟩ := h; rfl) | (obtain ⟨_, _, _, _, _, _, _, _, _, _, rfl, _⟩ := h; rfl) | (obtain ⟨_, _, _, _, _, _, _, _, _, _, _, rfl, _⟩ := h; rfl) | (obtain ⟨_, _, _, _, _, _, _, _, _, _, _, _, rfl, _⟩ := h; rfl) | (obtain ⟨_, _, _, _, _, _, _, _, _, _, _, _, _, rfl, _⟩ := h; rfl)) (t_law)
abbrev R : PySem.W.OpenRow := PySem.W.OpenLaw.row PySem.Challenge.rw_gristbytides_k82_periods_and_clocks
def ob (s : PySem.W.SharedT) : AlI := obsI 4 fa im fn (HandSHeadRun.getT s)
theorem ob_eq (s : PySem.W.SharedT) : ob s = (hookI 4 fa im fn).obs s.abs := obsI_eq (HandSHeadRun.getT_eq s)
def loose : List Str := ["__name__", "height_at", "do_wheels_fit", "joined_rests", "told_wheels", "fitting_periods", "later_marks", "fitting_offsets", "clock_height", "_law_draws", "_law_take", "_law_pick", "_law_same", "_law_gcd", "_law_tide_number", "_law_tide_hour", "_law_tide_wheels", "_law_tide_height", "_law_tide_marks", "_law_tide_round", "_law_pair_fits", "_law_periods_are_right", "_law_clock_is_right"]
theorem run (w : World) : HandSHeadRun.RunEqI R (PySem.W.view R.prog [0, 26]) (hookI 4 fa im fn) ob 4000 loose w := by
  unfold HandSHeadRun.RunEqI
  kernel_rfl
end K82
open PySem PySem.W PySem.Calls PyProof.Rows
theorem PySem.Challenge.cw_gristbytides_k82_periods_and_clocks_holds : PySem.Challenge.rw_gristbytides_k82_periods_and_clocks.Holds := by
  w_on; o_law
  refine HandSHeadRun.head_imp (r := OpenLaw.row PySem.Challenge.rw_gristbytides_k82_periods_and_clocks) (q := view (OpenLaw.row PySem.Challenge.rw_gristbytides_k82_periods_and_clocks).prog [0, 26]) (H := G3.hookI 4 K82.fa K82.im K82.fn) (ob := K82.ob) (M := 4000) (loose := K82.loose) (d := HandSHeadRun.topDef (OpenLaw.row PySem.Challenge.rw_gristbytides_k82_periods_and_clocks).prog 26) (kwd := []) K82.ob_eq
    K82.run (by kernel_rfl) (by kernel_rfl) (by kernel_rfl) (by rfl) (by first | assumption | decide +kernel) (by decide +kernel) ⟨rfl, rfl, rfl, rfl, rfl, by decide +kernel⟩ ?hw ?hc
  case hw => w_witness2
  case hc =>
    refine L2.walk_ofE (l := PySem.Challenge.rw_gristbytides_k82_periods_and_clocks) (n := 63) (k := 26) (x := "script") (CX := L2.CX0) rfl (by decide) (by kernel_rfl) ⟨rfl, by decide, by decide⟩ ?F (fun _ _ _ _ z => z)
    intro w mg fa h Y G hmg0
    obtain ⟨K, KX, c⟩ := Y
    have hmg : mg ("law" : PySem.Str) = some (.ref fa) := by
      have e : (HandSHeadRun.topDef (OpenLaw.row PySem.Challenge.rw_gristbytides_k82_periods_and_clocks).prog 26).name = ("law" : PySem.Str) := by kernel_rfl
      rw [← e]
      exact hmg0
    obtain ⟨fd, hb, hF⟩ := K82.facts (P := (PySem.Challenge.rw_gristbytides_k82_periods_and_clocks).prog) (w := w) KX G hmg c
    exact ⟨K, fd, G3.liftSp K K82.sp_law, KX, hb, fun H a ns hl hO hS => G3.law_in hO hS ⟨ns, rfl, hl, rfl⟩ _, hF⟩
